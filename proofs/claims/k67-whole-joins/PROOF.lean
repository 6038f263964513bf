import PyProof.Rows.All
import Wide.All
import OpenK.AllK
import Wide.FinOn
import HandS.Base
import HandS.Call
import HandS.Words
import HandS.Defaults
import KE.KStateDown
import HandS.Ends
import HandS.More
import HandS.WordsExc
import HandS.Head0
import HandS.Head1
import HandS.Head2
import HandS.HeadEnd
import HandS.HeadHook1
import HandS.HeadHook2
import HandS.HeadHook3
import HandS.HeadHook4
import HandS.HeadWalk
import HandS.Lambda
import HandS.EndTab
import HandS.ForMost
import HandS.Walk
import KE.KeyNested
import KE.KDictKeyed
import HandS.IsInst
import HandS.TupAny
import HandS.Style
import PyProof.EqAt
import PyProof.NeKinds
import KE.KDictPairs
import PyProof.DictMoreH
import KE.KDictZip
import KE.SortKeyHeap
import KE.KDictList
import KE.KDictCopyH
import KE.KDictItemsList
import HandS.SortKw
import HandS.Nested
import KE.KEqNest
import HandS.SetFor
import KE.DatumOrd
import KE.KDictDisplayH
import KE.GoesMore
import KE.GoesEnum
import HandS.TupSets
import KE.GoesSet
import KE.SortData
import HandS.DictComp
import HandS.Star
import HandS.TryOnly
import PySem.Challenge.RW_oncestream_k67_whole_joins_are_the_meani
set_option Elab.async false
set_option linter.all false
set_option maxRecDepth 100000
/-! ## K67Top -/
section
namespace K67
open PySem PySem.Spec PyProof.Rows L2
/-! ### the text by places -/
def top (i : Nat) : Stmt := PySem.Challenge.pw_oncestream_k67_whole_joins_are_the_meani.main.body.getD i (.Pass ⟨0, 0, 0, 0⟩)
abbrev s_is_integer_values : Stmt := top 2
abbrev s_is_value : Stmt := top 4
abbrev s_rank : Stmt := top 6
abbrev s_ranks : Stmt := top 7
abbrev s_made_of : Stmt := top 17
abbrev s_columns_made : Stmt := top 19
abbrev s_step_of : Stmt := top 20
abbrev s_columns_of : Stmt := top 21
abbrev s_steps_ahead : Stmt := top 22
abbrev s_out_of : Stmt := top 23
abbrev s_join_of : Stmt := top 26
abbrev s_joined_columns : Stmt := top 27
abbrev s_key_of : Stmt := top 28
abbrev s_do_meet : Stmt := top 29
abbrev s_pair : Stmt := top 30
abbrev s_given_rank : Stmt := top 31
abbrev s_kept_rank : Stmt := top 32
abbrev s_in_order : Stmt := top 33
abbrev s_fresh : Stmt := top 34
abbrev s_put : Stmt := top 35
abbrev s_is_integer_joins : Stmt := top 36
abbrev s_marked : Stmt := top 38
abbrev s_woven : Stmt := top 39
abbrev s_all_pairs : Stmt := top 40
abbrev s_is_row : Stmt := top 41
abbrev s_judge_pairs : Stmt := top 42
abbrev s_place_of : Stmt := top 44
abbrev s_bag_of : Stmt := top 45
abbrev s_cut : Stmt := top 48
abbrev s_mark_of : Stmt := top 49
abbrev s_marks_of : Stmt := top 50
abbrev s_late_of : Stmt := top 51
abbrev s_of_source : Stmt := top 52
abbrev s_together : Stmt := top 53
abbrev s_worths_of : Stmt := top 54
abbrev s_by_keys : Stmt := top 55
abbrev s_pairs_of : Stmt := top 60
abbrev s_of_step : Stmt := top 61
abbrev s_rows_with_lots : Stmt := top 62
abbrev s_meaning : Stmt := top 63
abbrev s_whole : Stmt := top 64
abbrev s__law_rank : Stmt := top 66
abbrev s__law_bag : Stmt := top 67
abbrev s__law_open_cells : Stmt := top 68
abbrev s__law_pick : Stmt := top 69
abbrev s__law_any_order : Stmt := top 70
abbrev s__law_ranks : Stmt := top 71
abbrev s__law_draw_join : Stmt := top 72
abbrev s__law_draw_row : Stmt := top 73
abbrev s__law_key : Stmt := top 74
abbrev s__law_meet : Stmt := top 75
abbrev s__law_pair : Stmt := top 76
abbrev s__law_given_rank : Stmt := top 77
abbrev s__law_every : Stmt := top 78
abbrev s__law_draw_entries : Stmt := top 79
abbrev s__law_weave : Stmt := top 80
abbrev s__law_things : Stmt := top 81
abbrev s_law : Stmt := top 82
abbrev FnP (K : PySem.W.Frag) (x : Str) (st : Stmt) (f : Addr) (fd : FuncData) : Prop := FunD K x x (defArgs st) (defBody st) (defScope st) [] [] f fd
end K67
end
/-! ## K67Head -/
section
set_option maxHeartbeats 0
namespace K67
open PySem PySem.Spec PyProof.Rows L2
def spLaw (K : PySem.W.Frag) (cs : List (Addr × Addr)) : Sp := fun vs H Q _ => ∃ (a : Addr) (ns : List Int), vs = [.ref a] ∧ SqL K H a (ns.map V.int) ∧ ns.length ≤ 63 ∧ (∀ p ∈ cs, H p.2 = some (.tbl #[])) ∧ ∀ H', Q (.bl true) H'
/-! ### the head: facts by names, the run -/
def d_is_integer_values : He.DefD := ⟨("is_integer_values", none), "is_integer", "is_integer", defArgs s_is_integer_values, defBody s_is_integer_values, defScope s_is_integer_values, [], []⟩
def d_is_value : He.DefD := ⟨("is_value", none), "is_value", "is_value", defArgs s_is_value, defBody s_is_value, defScope s_is_value, [], []⟩
def d_rank : He.DefD := ⟨("rank", none), "rank", "rank", defArgs s_rank, defBody s_rank, defScope s_rank, [], []⟩
def d_ranks : He.DefD := ⟨("ranks", none), "ranks", "ranks", defArgs s_ranks, defBody s_ranks, defScope s_ranks, [], []⟩
def d_made_of : He.DefD := ⟨("made_of", none), "made_of", "made_of", defArgs s_made_of, defBody s_made_of, defScope s_made_of, [], []⟩
def d_columns_made : He.DefD := ⟨("columns_made", none), "columns_made", "columns_made", defArgs s_columns_made, defBody s_columns_made, defScope s_columns_made, [], []⟩
def d_step_of : He.DefD := ⟨("step_of", none), "step_of", "step_of", defArgs s_step_of, defBody s_step_of, defScope s_step_of, [], []⟩
def d_columns_of : He.DefD := ⟨("columns_of", none), "columns_of", "columns_of", defArgs s_columns_of, defBody s_columns_of, defScope s_columns_of, [], []⟩
def d_steps_ahead : He.DefD := ⟨("steps_ahead", none), "steps_ahead", "steps_ahead", defArgs s_steps_ahead, defBody s_steps_ahead, defScope s_steps_ahead, [], []⟩
def d_out_of : He.DefD := ⟨("out_of", none), "out_of", "out_of", defArgs s_out_of, defBody s_out_of, defScope s_out_of, [], []⟩
def d_join_of : He.DefD := ⟨("join_of", none), "join_of", "join_of", defArgs s_join_of, defBody s_join_of, defScope s_join_of, [], []⟩
def d_joined_columns : He.DefD := ⟨("joined_columns", none), "joined_columns", "joined_columns", defArgs s_joined_columns, defBody s_joined_columns, defScope s_joined_columns, [], []⟩
def d_key_of : He.DefD := ⟨("key_of", none), "key_of", "key_of", defArgs s_key_of, defBody s_key_of, defScope s_key_of, [], []⟩
def d_do_meet : He.DefD := ⟨("do_meet", none), "do_meet", "do_meet", defArgs s_do_meet, defBody s_do_meet, defScope s_do_meet, [], []⟩
def d_pair : He.DefD := ⟨("pair", none), "pair", "pair", defArgs s_pair, defBody s_pair, defScope s_pair, [], []⟩
def d_given_rank : He.DefD := ⟨("given_rank", none), "given_rank", "given_rank", defArgs s_given_rank, defBody s_given_rank, defScope s_given_rank, [], []⟩
def d_kept_rank : He.DefD := ⟨("kept_rank", none), "kept_rank", "kept_rank", defArgs s_kept_rank, defBody s_kept_rank, defScope s_kept_rank, [], []⟩
def d_in_order : He.DefD := ⟨("in_order", none), "in_order", "in_order", defArgs s_in_order, defBody s_in_order, defScope s_in_order, [], []⟩
def d_fresh : He.DefD := ⟨("fresh", none), "fresh", "fresh", defArgs s_fresh, defBody s_fresh, defScope s_fresh, [], []⟩
def d_put : He.DefD := ⟨("put", none), "put", "put", defArgs s_put, defBody s_put, defScope s_put, [], []⟩
def d_is_integer_joins : He.DefD := ⟨("is_integer_joins", none), "is_integer", "is_integer", defArgs s_is_integer_joins, defBody s_is_integer_joins, defScope s_is_integer_joins, [], []⟩
def d_marked : He.DefD := ⟨("marked", none), "marked", "marked", defArgs s_marked, defBody s_marked, defScope s_marked, [], []⟩
def d_woven : He.DefD := ⟨("woven", none), "woven", "woven", defArgs s_woven, defBody s_woven, defScope s_woven, [], []⟩
def d_all_pairs : He.DefD := ⟨("all_pairs", none), "all_pairs", "all_pairs", defArgs s_all_pairs, defBody s_all_pairs, defScope s_all_pairs, [], []⟩
def d_is_row : He.DefD := ⟨("is_row", none), "is_row", "is_row", defArgs s_is_row, defBody s_is_row, defScope s_is_row, [], []⟩
def d_judge_pairs : He.DefD := ⟨("judge_pairs", none), "judge_pairs", "judge_pairs", defArgs s_judge_pairs, defBody s_judge_pairs, defScope s_judge_pairs, [], []⟩
def d_place_of : He.DefD := ⟨("place_of", none), "place_of", "place_of", defArgs s_place_of, defBody s_place_of, defScope s_place_of, [], []⟩
def d_bag_of : He.DefD := ⟨("bag_of", none), "bag_of", "bag_of", defArgs s_bag_of, defBody s_bag_of, defScope s_bag_of, [], []⟩
def d_cut : He.DefD := ⟨("cut", none), "cut", "cut", defArgs s_cut, defBody s_cut, defScope s_cut, [], []⟩
def d_mark_of : He.DefD := ⟨("mark_of", none), "mark_of", "mark_of", defArgs s_mark_of, defBody s_mark_of, defScope s_mark_of, [], []⟩
def d_marks_of : He.DefD := ⟨("marks_of", none), "marks_of", "marks_of", defArgs s_marks_of, defBody s_marks_of, defScope s_marks_of, [], []⟩
def d_late_of : He.DefD := ⟨("late_of", none), "late_of", "late_of", defArgs s_late_of, defBody s_late_of, defScope s_late_of, [], []⟩
def d_of_source : He.DefD := ⟨("of_source", none), "of_source", "of_source", defArgs s_of_source, defBody s_of_source, defScope s_of_source, [], []⟩
def d_together : He.DefD := ⟨("together", none), "together", "together", defArgs s_together, defBody s_together, defScope s_together, [], []⟩
def d_worths_of : He.DefD := ⟨("worths_of", none), "worths_of", "worths_of", defArgs s_worths_of, defBody s_worths_of, defScope s_worths_of, [], []⟩
def d_by_keys : He.DefD := ⟨("by_keys", none), "by_keys", "by_keys", defArgs s_by_keys, defBody s_by_keys, defScope s_by_keys, [], []⟩
def d_pairs_of : He.DefD := ⟨("pairs_of", none), "pairs_of", "pairs_of", defArgs s_pairs_of, defBody s_pairs_of, defScope s_pairs_of, [], []⟩
def d_of_step : He.DefD := ⟨("of_step", none), "of_step", "of_step", defArgs s_of_step, defBody s_of_step, defScope s_of_step, [], []⟩
def d_rows_with_lots : He.DefD := ⟨("rows_with_lots", none), "rows_with_lots", "rows_with_lots", defArgs s_rows_with_lots, defBody s_rows_with_lots, defScope s_rows_with_lots, [], []⟩
def d_meaning : He.DefD := ⟨("meaning", none), "meaning", "meaning", defArgs s_meaning, defBody s_meaning, defScope s_meaning, [], []⟩
def d_whole : He.DefD := ⟨("whole", none), "whole", "whole", defArgs s_whole, defBody s_whole, defScope s_whole, [], []⟩
def d__law_rank : He.DefD := ⟨("_law_rank", none), "_law_rank", "_law_rank", defArgs s__law_rank, defBody s__law_rank, defScope s__law_rank, [], []⟩
def d__law_bag : He.DefD := ⟨("_law_bag", none), "_law_bag", "_law_bag", defArgs s__law_bag, defBody s__law_bag, defScope s__law_bag, [], []⟩
def d__law_open_cells : He.DefD := ⟨("_law_open_cells", none), "_law_open_cells", "_law_open_cells", defArgs s__law_open_cells, defBody s__law_open_cells, defScope s__law_open_cells, [], []⟩
def d__law_pick : He.DefD := ⟨("_law_pick", none), "_law_pick", "_law_pick", defArgs s__law_pick, defBody s__law_pick, defScope s__law_pick, [], []⟩
def d__law_any_order : He.DefD := ⟨("_law_any_order", none), "_law_any_order", "_law_any_order", defArgs s__law_any_order, defBody s__law_any_order, defScope s__law_any_order, [], []⟩
def d__law_ranks : He.DefD := ⟨("_law_ranks", none), "_law_ranks", "_law_ranks", defArgs s__law_ranks, defBody s__law_ranks, defScope s__law_ranks, [], []⟩
def d__law_draw_join : He.DefD := ⟨("_law_draw_join", none), "_law_draw_join", "_law_draw_join", defArgs s__law_draw_join, defBody s__law_draw_join, defScope s__law_draw_join, [], []⟩
def d__law_draw_row : He.DefD := ⟨("_law_draw_row", none), "_law_draw_row", "_law_draw_row", defArgs s__law_draw_row, defBody s__law_draw_row, defScope s__law_draw_row, [], []⟩
def d__law_key : He.DefD := ⟨("_law_key", none), "_law_key", "_law_key", defArgs s__law_key, defBody s__law_key, defScope s__law_key, [], []⟩
def d__law_meet : He.DefD := ⟨("_law_meet", none), "_law_meet", "_law_meet", defArgs s__law_meet, defBody s__law_meet, defScope s__law_meet, [], []⟩
def d__law_pair : He.DefD := ⟨("_law_pair", none), "_law_pair", "_law_pair", defArgs s__law_pair, defBody s__law_pair, defScope s__law_pair, [], []⟩
def d__law_given_rank : He.DefD := ⟨("_law_given_rank", none), "_law_given_rank", "_law_given_rank", defArgs s__law_given_rank, defBody s__law_given_rank, defScope s__law_given_rank, [], []⟩
def d__law_every : He.DefD := ⟨("_law_every", none), "_law_every", "_law_every", defArgs s__law_every, defBody s__law_every, defScope s__law_every, [], []⟩
def d__law_draw_entries : He.DefD := ⟨("_law_draw_entries", none), "_law_draw_entries", "_law_draw_entries", defArgs s__law_draw_entries, defBody s__law_draw_entries, defScope s__law_draw_entries, [], []⟩
def d__law_weave : He.DefD := ⟨("_law_weave", none), "_law_weave", "_law_weave", defArgs s__law_weave, defBody s__law_weave, defScope s__law_weave, [], []⟩
def d__law_things : He.DefD := ⟨("_law_things", none), "_law_things", "_law_things", defArgs s__law_things, defBody s__law_things, defScope s__law_things, [], []⟩
def d_law : He.DefD := ⟨("law", none), "law", "law", defArgs s_law, defBody s_law, defScope s_law, [], []⟩
def fn : List He.DefD := ([d_is_integer_values, d_is_value, d_rank, d_ranks, d_made_of, d_columns_made, d_step_of, d_columns_of, d_steps_ahead, d_out_of, d_join_of, d_joined_columns, d_key_of, d_do_meet, d_pair, d_given_rank, d_kept_rank, d_in_order, d_fresh, d_put, d_is_integer_joins, d_marked, d_woven, d_all_pairs, d_is_row, d_judge_pairs, d_place_of, d_bag_of, d_cut, d_mark_of] : List He.DefD) ++ ([d_marks_of, d_late_of, d_of_source, d_together, d_worths_of, d_by_keys, d_pairs_of, d_of_step, d_rows_with_lots, d_meaning, d_whole, d__law_rank, d__law_bag, d__law_open_cells, d__law_pick, d__law_any_order, d__law_ranks, d__law_draw_join, d__law_draw_row, d__law_key, d__law_meet, d__law_pair, d__law_given_rank, d__law_every, d__law_draw_entries, d__law_weave, d__law_things, d_law] : List He.DefD)
def fa : List He.Fa := ([.glo "is_integer_values", .glo "is_value", .glo "rank", .glo "ranks", .glo "made_of", .glo "columns_made", .glo "step_of", .glo "columns_of", .glo "steps_ahead", .glo "out_of", .glo "join_of", .glo "joined_columns", .glo "key_of", .glo "do_meet", .glo "pair", .glo "given_rank", .glo "kept_rank", .glo "in_order", .glo "fresh", .glo "put", .glo "is_integer_joins", .glo "marked", .glo "woven", .glo "all_pairs", .glo "is_row", .glo "judge_pairs", .glo "place_of", .glo "bag_of", .glo "cut", .glo "mark_of"] : List He.Fa) ++ ([.glo "marks_of", .glo "late_of", .glo "of_source", .glo "together", .glo "worths_of", .glo "by_keys", .glo "pairs_of", .glo "of_step", .glo "rows_with_lots", .glo "meaning", .glo "whole", .glo "_law_rank", .glo "_law_bag", .glo "_law_open_cells", .glo "_law_pick", .glo "_law_any_order", .glo "_law_ranks", .glo "_law_draw_join", .glo "_law_draw_row", .glo "_law_key", .glo "_law_meet", .glo "_law_pair", .glo "_law_given_rank", .glo "_law_every", .glo "_law_draw_entries", .glo "_law_weave", .glo "_law_things", .glo "law", .free "len", .free "isinstance"] : List He.Fa) ++ ([.free "int", .free "bool", .free "str", .free "tuple", .free "all", .free "sorted", .free "max", .free "min", .free "dict", .free "list", .free "range", .free "enumerate", .free "zip", .free "abs", .int "END_marks" 1000000000, .int "END_meaning" 1000000000, .str "SIGNS" "abcdefghijklmnopqrstuvwxyzABCDEFGHIJKLMNOPQRSTUVWXYZ0123456789 -_"] : List He.Fa)
def loose : List Str := (["__name__", "SIGNS", "is_integer", "is_integer_values", "is_value", "kind_of", "rank", "ranks", "kept_text", "kind_under", "kind_in", "reckoned", "worth_at", "worth", "holds", "made_of", "fixed", "columns_made", "step_of", "columns_of", "steps_ahead", "out_of", "END_marks", "join_of", "joined_columns", "key_of", "do_meet", "pair", "given_rank", "kept_rank"] : List Str) ++ (["in_order", "fresh", "put", "is_integer_joins", "marked", "woven", "all_pairs", "is_row", "judge_pairs", "place_of", "bag_of", "END_meaning", "cut", "mark_of", "marks_of", "late_of", "of_source", "together", "worths_of", "by_keys", "spans_of", "in_windows", "summed", "sums_of", "pairs_of", "of_step", "rows_with_lots", "meaning", "whole", "_law_rank"] : List Str) ++ (["_law_bag", "_law_open_cells", "_law_pick", "_law_any_order", "_law_ranks", "_law_draw_join", "_law_draw_row", "_law_key", "_law_meet", "_law_pair", "_law_given_rank", "_law_every", "_law_draw_entries", "_law_weave", "_law_things"] : List Str)
def tf : List He.Defn := [("in_order", none), ("rows_with_lots", none)]
abbrev R : PySem.W.OpenRow := PySem.W.OpenLaw.row PySem.Challenge.rw_oncestream_k67_whole_joins_are_the_meani
/-- the two tables are two -/
abbrev ex0 : PySem.W.Frag → Bool := fun K => !((He.cT K ("in_order", none)).2 == (He.cT K ("rows_with_lots", none)).2)
abbrev hk : PySem.W.Hook := He.hookX 4 fa fn [] tf ex0
def ob (s : PySem.W.SharedT) : He.AlX := He.obsX 4 fa fn [] tf ex0 (HandSHeadRun.getT s)
theorem ob_eq (s : PySem.W.SharedT) : ob s = hk.obs s.abs := He.obsX_eq (HandSHeadRun.getT_eq s)
theorem run (w : World) : HandSHeadRun.RunEq R (PySem.W.view R.prog [82]) hk ob 4000 loose w := by
  intro os
  kernel_rfl
end K67
open PySem PySem.W PySem.Calls PyProof.Rows
theorem K67.holds_of (F : ∀ {w : World} {K : PySem.W.Frag} {h : Heap} {mg : PySem.Str → Option Value} {f : Addr} (X : K.In h) (G : h.Ns mainGlobals mg) (hfa : mg ("law" : PySem.Str) = some (.ref f)) (c : He.SaysD K67.fa K67.fn K) (hne : K67.ex0 K = true),
    ∃ fd : FuncData, (∀ (s : Shared) (v : Value), BindsTo s fd ⟨[v], []⟩ [("_law_script", v)]) ∧ ∀ base : Heap, K.In base → base.Ns mainGlobals mg → (∀ p ∈ K67.tf.map (He.cT K), LamX.TabB base mg p.1 p.2) →
      L2.FnOk (PySem.Challenge.rw_oncestream_k67_whole_joins_are_the_meani).prog w K mg base L2.CX0 20 f fd ["_law_script"] (K67.spLaw K (K67.tf.map (He.cT K)))) : PySem.Challenge.rw_oncestream_k67_whole_joins_are_the_meani.Holds := by
  w_on; o_law
  refine HandSHeadRun.head_any (r := OpenLaw.row PySem.Challenge.rw_oncestream_k67_whole_joins_are_the_meani) (q := view (OpenLaw.row PySem.Challenge.rw_oncestream_k67_whole_joins_are_the_meani).prog [82]) (H := K67.hk) (ob := K67.ob) (M := 4000) (loose := K67.loose) (d := HandSHeadRun.topDef (OpenLaw.row PySem.Challenge.rw_oncestream_k67_whole_joins_are_the_meani).prog 82) (kwd := []) K67.ob_eq
    (by kernel_rfl) (fun s => by kernel_rfl) K67.run (by kernel_rfl) (by kernel_rfl) (by kernel_rfl) (by rfl) (by first | assumption | decide +kernel) (by decide +kernel) ⟨rfl, rfl, rfl, rfl, rfl, by decide +kernel⟩ ?hw ?hc
  case hw => w_witness2
  case hc =>
    refine LamX.walk_ofTsE (l := PySem.Challenge.rw_oncestream_k67_whole_joins_are_the_meani) (n := 63) (k := 20) (x := "_law_script") (CX := fun _ => L2.CX0) rfl (by decide) (by kernel_rfl) ⟨rfl, by decide, by decide⟩ ?F (fun _ _ _ _ _ z => z)
    intro w mg fa h Y G hmg0
    obtain ⟨K, KX, c⟩ := Y
    have hmg : mg ("law" : PySem.Str) = some (.ref fa) := by
      have e : (HandSHeadRun.topDef (OpenLaw.row PySem.Challenge.rw_oncestream_k67_whole_joins_are_the_meani).prog 82).name = ("law" : PySem.Str) := by kernel_rfl
      rw [← e]
      exact hmg0
    obtain ⟨fd, hb, hF⟩ := F KX G hmg c.t.d c.more
    have mem : ∀ p ∈ K67.tf.map (He.cT K), ∃ q ∈ K67.tf, He.cT K q = p := fun p hp => List.mem_map.mp hp
    refine ⟨K, KX, fd, K67.tf.map (He.cT K), K67.spLaw K (K67.tf.map (He.cT K)), fun p hp => ?_, fun p hp => ?_, fun p hp => ?_, hb, fun H a ns hl _ hT hS => ⟨a, ns, rfl, hS, hl, hT, fun _ => rfl⟩, hF⟩
    · obtain ⟨q, hq, rfl⟩ := mem p hp
      exact c.empty q hq
    · obtain ⟨q, hq, rfl⟩ := mem p hp
      exact c.out q hq
    · obtain ⟨q, hq, rfl⟩ := mem p hp
      exact PySem.W.codeHd_of_K KX (c.hd q hq)
end
/-! ## K67Base -/
section
set_option maxHeartbeats 4000000
/-! K67Base: data that never changes (nested tuples of ints, texts, None) told in the abstract heap; how heaps grow; defs by name -/
namespace K67
open PySem PySem.Spec PyProof.Rows L2 LamX

mutual
/-- the value v is the datum d: tuples that stand in H -/
inductive Tp (H : Hp) : V → NestedKey → Prop
  | non : Tp H .non .none
  | int (i : Int) : Tp H (.int i) (.num i)
  | str (x : Str) : Tp H (.str x) (.text x)
  | tup {a : Addr} {vs : List V} {ds : List NestedKey} : Rd H a (.tup vs) → Tps H vs ds → Tp H (.ref a) (.tup ds)
inductive Tps (H : Hp) : List V → List NestedKey → Prop
  | nil : Tps H [] []
  | cons {v : V} {vs : List V} {d : NestedKey} {ds : List NestedKey} : Tp H v d → Tps H vs ds → Tps H (v :: vs) (d :: ds)
end
/-- tuples stay -/
def TS (H H' : Hp) : Prop := ∀ a xs, Rd H a (.tup xs) → Rd H' a (.tup xs)
mutual
theorem Tp.ts {H H' : Hp} (e : TS H H') : ∀ (d : NestedKey) (v : V), Tp H v d → Tp H' v d
  | .none, _, h => by cases h; exact .non
  | .num i, _, h => by cases h; exact .int i
  | .text x, _, h => by cases h; exact .str x
  | .tup ds, _, h => by
    cases h with
    | tup h1 h2 => exact .tup (e _ _ h1) (Tps.ts e ds _ h2)
theorem Tps.ts {H H' : Hp} (e : TS H H') : ∀ (ds : List NestedKey) (vs : List V), Tps H vs ds → Tps H' vs ds
  | [], _, h => by cases h; exact .nil
  | d :: ds, _, h => by
    cases h with
    | cons h1 h2 => exact .cons (Tp.ts e d _ h1) (Tps.ts e ds _ h2)
end
section
variable {H H' : Hp} {v : V} {vs ws : List V} {d : NestedKey} {ds es : List NestedKey}
theorem Tp.tup_inv (h : Tp H v (.tup ds)) : ∃ a vs, v = .ref a ∧ Rd H a (.tup vs) ∧ Tps H vs ds := by
  cases h with
  | tup h1 h2 => exact ⟨_, _, rfl, h1, h2⟩
theorem Tp.num_inv {i : Int} (h : Tp H v (.num i)) : v = .int i := by cases h; rfl
theorem Tp.text_inv {x : Str} (h : Tp H v (.text x)) : v = .str x := by cases h; rfl
theorem Tp.none_inv (h : Tp H v .none) : v = .non := by cases h; rfl
theorem Tps.nil_inv (h : Tps H vs []) : vs = [] := by cases h; rfl
theorem Tps.cons_inv (h : Tps H vs (d :: ds)) : ∃ v ws, vs = v :: ws ∧ Tp H v d ∧ Tps H ws ds := by
  cases h with
  | cons h1 h2 => exact ⟨_, _, rfl, h1, h2⟩
theorem Tps.length : ∀ {vs : List V} {ds : List NestedKey}, Tps H vs ds → vs.length = ds.length
  | _, _, .nil => rfl
  | _, _, .cons _ t => by rw [List.length_cons, List.length_cons, t.length]
theorem Tps.get : ∀ {vs : List V} {ds : List NestedKey} {i : Nat} {d : NestedKey}, Tps H vs ds → ds[i]? = some d → ∃ v, vs[i]? = some v ∧ Tp H v d
  | _, _, _, _, .nil, e => by simp at e
  | _, _, 0, _, .cons r _, e => by simp at e; subst e; exact ⟨_, rfl, r⟩
  | _, _, i + 1, d, .cons _ t, e => by
    obtain ⟨u, h1, h2⟩ := Tps.get (i := i) (d := d) t (by simpa using e)
    exact ⟨u, by simpa using h1, h2⟩
theorem Tps.at_ : ∀ {vs : List V} {ds : List NestedKey} {i : Nat} {v : V}, Tps H vs ds → vs[i]? = some v → ∃ d, ds[i]? = some d ∧ Tp H v d
  | _, _, _, _, .nil, e => by simp at e
  | _, _, 0, _, .cons r _, e => by simp at e; subst e; exact ⟨_, rfl, r⟩
  | _, _, i + 1, v, .cons _ t, e => by
    obtain ⟨u, h1, h2⟩ := Tps.at_ (i := i) (v := v) t (by simpa using e)
    exact ⟨u, by simpa using h1, h2⟩
theorem Tps.append : ∀ {vs ws : List V} {ds es : List NestedKey}, Tps H vs ds → Tps H ws es → Tps H (vs ++ ws) (ds ++ es)
  | _, _, _, _, .nil, s => s
  | _, _, _, _, .cons r t, s => .cons r (Tps.append t s)
theorem Tps.snoc (h : Tps H vs ds) (r : Tp H v d) : Tps H (vs ++ [v]) (ds ++ [d]) := h.append (.cons r .nil)
theorem Tps.take : ∀ {vs : List V} {ds : List NestedKey} (n : Nat), Tps H vs ds → Tps H (vs.take n) (ds.take n)
  | _, _, 0, _ => .nil
  | _, _, _ + 1, .nil => .nil
  | _, _, n + 1, .cons r t => .cons r (Tps.take n t)
theorem Tps.drop : ∀ {vs : List V} {ds : List NestedKey} (n : Nat), Tps H vs ds → Tps H (vs.drop n) (ds.drop n)
  | _, _, 0, r => r
  | _, _, _ + 1, .nil => .nil
  | _, _, n + 1, .cons _ t => Tps.drop n t
theorem Tps.set : ∀ {vs : List V} {ds : List NestedKey} (i : Nat), Tps H vs ds → Tp H v d → Tps H (vs.set i v) (ds.set i d)
  | _, _, _, .nil, _ => .nil
  | _, _, 0, .cons _ t, r => .cons r t
  | _, _, i + 1, .cons q t, r => .cons q (Tps.set i t r)
theorem Tps.eraseIdx : ∀ {vs : List V} {ds : List NestedKey} (i : Nat), Tps H vs ds → Tps H (vs.eraseIdx i) (ds.eraseIdx i)
  | _, _, _, .nil => .nil
  | _, _, 0, .cons _ t => t
  | _, _, i + 1, .cons q t => .cons q (Tps.eraseIdx i t)
theorem Tps.pr : ∀ {vs : List V} {ds : List NestedKey}, Tps H vs ds → Paired (Tp H) vs ds
  | _, _, .nil => .nil
  | _, _, .cons r t => .cons r t.pr
theorem Tps.of : ∀ {vs : List V} {ds : List NestedKey}, Paired (Tp H) vs ds → Tps H vs ds
  | _, _, .nil => .nil
  | _, _, .cons r t => .cons r (Tps.of t)
end

/-! ### into the model's own words -/
section
variable {P : Program} {w : World} {H : Hp} {h : Heap}
mutual
theorem Tp.nested (ok : HOk P w H h) : ∀ (d : NestedKey) (v : V) (u : Value), Tp H v d → RelV v u → NestedIs h d u
  | .none, _, _, t, r => by cases t; cases r; exact .none
  | .num i, _, _, t, r => by cases t; obtain ⟨k, rfl⟩ := r; exact .int i k
  | .text x, _, _, t, r => by cases t; obtain ⟨k, rfl⟩ := r; exact .text x k
  | .tup ds, _, _, t, r => by
    cases t with
    | tup h1 h2 =>
      cases r
      obtain ⟨_, its, rv, o, ho, hc, n, hd⟩ := h1.ok ok
      exact .tup ho hc hd (Tps.nested ok ds _ its h2 rv)
theorem Tps.nested (ok : HOk P w H h) : ∀ (ds : List NestedKey) (vs : List V) (us : List Value), Tps H vs ds → Vals vs us → NestedAll h ds us
  | [], _, _, t, r => by cases t; cases r; exact .nil
  | d :: ds, _, _, t, r => by
    cases t with
    | cons h1 h2 =>
      cases r with
      | cons r1 r2 => exact .cons (Tp.nested ok d _ _ h1 r1) (Tps.nested ok ds _ _ h2 r2)
end
end
mutual
theorem Tp.dp {K : PySem.W.Frag} {H : Hp} : ∀ (d : NestedKey) (v : V), Tp H v d → Dp K H v d.data
  | .none, _, t => by cases t; exact .non
  | .num i, _, t => by cases t; exact .int i
  | .text x, _, t => by cases t; exact .str x
  | .tup ds, _, t => by
    cases t with
    | tup h1 h2 => exact .tup (.inl h1) (Tps.dp ds _ h2)
theorem Tps.dp {K : PySem.W.Frag} {H : Hp} : ∀ (ds : List NestedKey) (vs : List V), Tps H vs ds → DpAll K H vs (NestedKey.datas ds)
  | [], _, t => by cases t; exact .nil
  | d :: ds, _, t => by
    cases t with
    | cons h1 h2 => exact .cons (Tp.dp d _ h1) (Tps.dp ds _ h2)
end

/-! ### how heaps grow -/
/-- all that stood stands, but the tables of code objects, which may grow -/
def Sm (T : List (Addr × Str)) (H H' : Hp) : Prop := ExtN H H' ∧ (Tabs T H → Tabs T H')
/-- no table, no code object -/
def Mu (o : Option HO) : Prop := (∀ ps, o ≠ some (.tbl ps)) ∧ (∀ c q, o ≠ some (CodeO c q)) ∧ (∀ xs, o ≠ some (.tup xs)) ∧ ∀ ob xs, o ≠ some (.frz ob (.tup xs))
theorem mu_none : Mu Option.none := ⟨fun _ z => (by cases z), fun _ _ z => (by cases z), fun _ z => (by cases z), fun _ _ z => by cases z⟩
theorem mu_lst {xs : List V} : Mu (some (.lst xs)) := ⟨fun _ z => (by cases z), fun c q z => (by unfold CodeO at z; cases z), fun _ z => (by cases z), fun _ _ z => by cases z⟩
theorem mu_dK {kvs : List (Key × V)} : Mu (some (.dK kvs)) := ⟨fun _ z => (by cases z), fun c q z => (by unfold CodeO at z; cases z), fun _ z => (by cases z), fun _ _ z => by cases z⟩
theorem mu_dT {kvs : List (List Key × V)} : Mu (some (.dT kvs)) := ⟨fun _ z => (by cases z), fun c q z => (by unfold CodeO at z; cases z), fun _ z => (by cases z), fun _ _ z => by cases z⟩
section
variable {T : List (Addr × Str)} {H H' H1 H2 : Hp} {p a : Addr} {o : HO}
theorem Sm.refl (T : List (Addr × Str)) (H : Hp) : Sm T H H := ⟨ExtN.refl H, fun t => t⟩
theorem Sm.trans (a : Sm T H H1) (b : Sm T H1 H2) : Sm T H H2 := ⟨a.1.trans b.1, fun t => b.2 (a.2 t)⟩
theorem tabs_upd (hm : Mu (H p)) (t : Tabs T H) : Tabs T (upd H p o) := fun q hq => by
  obtain ⟨ps, h1, h2, h3⟩ := t q hq
  have n1 : q.1 ≠ p := fun e => by rw [e] at h1; exact hm.1 _ h1
  refine ⟨ps, by rw [upd_ne n1]; exact h1, h2, fun pos cv hc => ?_⟩
  obtain ⟨c, e1, e2⟩ := h3 pos cv hc
  have n2 : c ≠ p := fun e => by rw [e] at e2; exact hm.2.1 _ _ e2
  exact ⟨c, e1, by rw [upd_ne n2]; exact e2⟩
theorem Sm.new (h : H p = none) : Sm T H (upd H p o) := ⟨fun b u e n => by rw [upd_ne (ne_of_none e h)]; exact e, tabs_upd (by rw [h]; exact mu_none)⟩
/-- an object that did not stand at the start may change -/
theorem Sm.mut (e : Sm T H H') (h : H p = none) (hm : Mu (H' p)) : Sm T H (upd H' p o) := ⟨fun b u q n => by rw [upd_ne (ne_of_none q h)]; exact e.1 b u q n, fun t => tabs_upd hm (e.2 t)⟩
theorem Sm.ts (e : Sm T H H') : TS H H' := fun a xs h => by
  rcases h with h | ⟨o, h⟩
  · exact .inl (e.1 a _ h (fun ps z => by cases z))
  · exact .inr ⟨o, e.1 a _ h (fun ps z => by cases z)⟩
theorem TS.refl (H : Hp) : TS H H := fun _ _ h => h
theorem TS.trans (a : TS H H1) (b : TS H1 H2) : TS H H2 := fun c xs h => b c xs (a c xs h)
theorem TS.mu (h : Mu (H p)) : TS H (L2.upd H p o) := fun b xs e => by
  rcases e with e | ⟨ob, e⟩
  · exact .inl (by rw [upd_ne (fun z => by rw [z] at e; exact h.2.2.1 _ e)]; exact e)
  · exact .inr ⟨ob, by rw [upd_ne (fun z => by rw [z] at e; exact h.2.2.2 _ _ e)]; exact e⟩
theorem Sm.lst (e : Sm T H H') {xs : List V} (h : H a = some (.lst xs)) : H' a = some (.lst xs) := e.1 a _ h (fun ps z => by cases z)
theorem Sm.tup (e : Sm T H H') {xs : List V} (h : H a = some (.tup xs)) : H' a = some (.tup xs) := e.1 a _ h (fun ps z => by cases z)
theorem Sm.rd (e : Sm T H H') {xs : List V} (h : Rd H a (.tup xs)) : Rd H' a (.tup xs) := e.ts a xs h
theorem Sm.frz (e : Sm T H H') {ob : Obj} {u : HO} (h : H a = some (.frz ob u)) : H' a = some (.frz ob u) := e.1 a _ h (fun ps z => by cases z)
theorem Sm.dK (e : Sm T H H') {xs : List (Key × V)} (h : H a = some (.dK xs)) : H' a = some (.dK xs) := e.1 a _ h (fun ps z => by cases z)
end

/-! ### comprehensions over data -/
theorem sz_lt' {n : Nat} (h : n < 200000) : n < sizeLine := Nat.lt_of_lt_of_le h (by decide)
theorem sz_le' {n : Nat} (h : n ≤ 200000) : n ≤ sizeLine := Nat.le_trans h (by decide)
/-- all but D, and but tables -/
def XBut (D : Addr) (H H' : Hp) : Prop := TS H H' ∧ ∀ a o, a ≠ D → H a = some o → (∀ ps, o ≠ .tbl ps) → H' a = some o
theorem XBut.of {T : List (Addr × Str)} {D : Addr} {H H' : Hp} (e : Sm T H H') : XBut D H H' := ⟨e.ts, fun a o _ h n => e.1 a o h n⟩
theorem XBut.upd {D : Addr} {H : Hp} {o : HO} (h : Mu (H D)) : XBut D H (L2.upd H D o) := ⟨TS.mu h, fun a u n e _ => by rw [upd_ne n]; exact e⟩
theorem Paired.snoc {α β : Type} {R : α → β → Prop} : ∀ {xs : List α} {ys : List β} {x : α} {y : β}, Paired R xs ys → R x y → Paired R (xs ++ [x]) (ys ++ [y])
  | _, _, _, _, .nil, r => .cons r .nil
  | _, _, _, _, .cons q t, r => .cons q (Paired.snoc t r)
theorem range_fm {β : Type} (f : Nat → Option β) (i : Nat) : (List.range (i + 1)).filterMap f = (List.range i).filterMap f ++ (match f i with | some b => [b] | none => []) := by
  rw [List.range_succ, List.filterMap_append]
  cases h : f i with
  | none => simp [h]
  | some b => simp [h]
theorem fm_len {β : Type} (f : Nat → Option β) (i : Nat) : ((List.range i).filterMap f).length ≤ i := by
  have h := List.length_filterMap_le f (List.range i)
  rw [List.length_range] at h
  exact h
theorem fm_at {α β : Type} (as : List α) (F : α → Option β) : (List.range as.length).filterMap (fun i => as[i]?.bind F) = as.filterMap F := by
  induction as with
  | nil => rfl
  | cons a r ih =>
    rw [List.length_cons, List.range_succ_eq_map, List.filterMap_cons, List.filterMap_map, List.filterMap_cons]
    have e : (fun i => (a :: r)[i]?.bind F) ∘ Nat.succ = fun i => r[i]?.bind F := by
      funext i
      simp
    rw [e, ih]
    simp
section
variable {T : List (Addr × Str)} {J : It} {n : Nat} {G : Hp → Prop} {Y : Nat → Hp → V → Hp → Prop} {g : TG} {tt : TT} {te : TE} {vs : List Nat} {σ : L2.St} {H1 : Hp} {D : Addr} {Qd : Hp → Prop} {β : Type}
theorem lc_dat (w : Walk J n G Y) (R : Hp → V → β → Prop) (f : Nat → Option β) (hD : H1 D = none) (hG : ∀ H', Sm T H1 H' → G H') (hn : n ≤ 100000)
    (hR : ∀ H H' v b, XBut D H H' → R H v b → R H' v b)
    (hs : ∀ i x H H', i < n → Sm T H1 H → (∃ ys, H D = some (.lst ys)) → Y i H x H' → ∀ (Qy : V → Hp → Prop) (Qn : Hp → Prop), (∀ y b H'', f i = some b → Sm T H H'' → R H'' y b → Qy y H'') → (∀ H'', f i = none → Sm T H H'' → Qn H'') →
      g x (wipe σ vs) H' fun σ2 H2 => wipe σ2 vs = wipe σ vs ∧ tt σ2 H2 fun b H3 => if b = true then te σ2 H3 Qy else Qn H3)
    (hd : ∀ H' ys, Sm T H1 H' → H' D = some (.lst ys) → Paired (R H') ys ((List.range n).filterMap f) → Qd H') :
    ∃ W : Nat → Nat → Hp → Prop, (∃ m, W 0 m (upd H1 D (.lst []))) ∧ ∀ i m H, W i m H →
      (J.stop i H ∧ Qd H) ∨ (J.go i H ∧ ∃ Nx : Hp → Prop, (∀ H', Nx H' → ∃ m', m' < m ∧ W (i + 1) m' H') ∧ ∀ x H', J.yld i H x H' → g x (wipe σ vs) H' fun σ2 H2 => wipe σ2 vs = wipe σ vs ∧ tt σ2 H2 fun b H3 =>
        if b = true then te σ2 H3 fun y H4 => ∃ acc, H4 D = some (.lst acc) ∧ acc.length < sizeLine ∧ Nx (upd H4 D (.lst (acc ++ [y]))) else Nx H3) := by
  refine lc_it w (fun i H => Sm T H1 H ∧ ∃ ys, H D = some (.lst ys) ∧ Paired (R H) ys ((List.range i).filterMap f)) ⟨Sm.new hD, [], upd_same, .nil⟩ (fun i H _ p => hG H p.1) (fun i x H H' hi p y => ?_) fun H p => ?_
  · obtain ⟨e, ys, hy, pr⟩ := p
    have mono : ∀ H'', Sm T H H'' → Paired (R H'') ys ((List.range i).filterMap f) := fun H'' e2 => Paired.mapP pr fun v b r => hR _ _ _ _ (XBut.of e2) r
    refine hs i x H H' hi e ⟨ys, hy⟩ y _ _ (fun v b H'' hf e2 r => ?_) fun H'' hf e2 => ?_
    · have hl : ys.length ≤ i := by rw [Paired.length pr]; exact fm_len f i
      refine ⟨ys, e2.lst hy, sz_lt' (by omega), (e.trans e2).mut hD (by rw [e2.lst hy]; exact mu_lst), ys ++ [v], upd_same, ?_⟩
      rw [range_fm, hf]
      have xb : XBut D H'' (upd H'' D (.lst (ys ++ [v]))) := XBut.upd (by rw [e2.lst hy]; exact mu_lst)
      exact Paired.snoc (Paired.mapP (mono H'' e2) fun _ _ q => hR _ _ _ _ xb q) (hR _ _ _ _ xb r)
    · refine ⟨e.trans e2, ys, e2.lst hy, ?_⟩
      rw [range_fm, hf]
      simpa using mono H'' e2
  · obtain ⟨e, ys, hy, pr⟩ := p
    exact hd H ys e hy pr
end

/-! ### the module's names; defs by name -/
structure Bs (mg : Str → Option Value) : Prop where
  len_ : mg "len" = none
  isinstance_ : mg "isinstance" = none
  int_ : mg "int" = none
  bool_ : mg "bool" = none
  str_ : mg "str" = none
  tuple_ : mg "tuple" = none
  all_ : mg "all" = none
  sorted_ : mg "sorted" = none
  max_ : mg "max" = none
  min_ : mg "min" = none
  dict_ : mg "dict" = none
  list_ : mg "list" = none
  range_ : mg "range" = none
  enumerate_ : mg "enumerate" = none
  zip_ : mg "zip" = none
  abs_ : mg "abs" = none
  END_marks : ∃ t, mg "END_marks" = some (.int 1000000000 t)
  END_meaning : ∃ t, mg "END_meaning" = some (.int 1000000000 t)
  SIGNS : ∃ t, mg "SIGNS" = some (.str "abcdefghijklmnopqrstuvwxyzABCDEFGHIJKLMNOPQRSTUVWXYZ0123456789 -_" t)
section
variable {X : Cx} {x : Str} {p pos : Pos}
theorem pe_gi {i : Int} (h : ∃ t, X.mg x = some (.int i t)) (hg : Gl X x := by rfl) (hd : (x == ("__debug__" : Str)) = false := by decide) : PE X (.Name x p) (tC (.int i)) := by
  obtain ⟨t, h⟩ := h
  exact pe_glob hg h ⟨t, rfl⟩ hd
theorem pe_gs {z : Str} (h : ∃ t, X.mg x = some (.str z t)) (hg : Gl X x := by rfl) (hd : (x == ("__debug__" : Str)) = false := by decide) : PE X (.Name x p) (tC (.str z)) := by
  obtain ⟨t, h⟩ := h
  exact pe_glob hg h ⟨t, rfl⟩ hd
end
/-- the def x keeps the promise sp at level k -/
def Df (P : Program) (w : World) (K : PySem.W.Frag) (mg : Str → Option Value) (base : Heap) (x : Str) (k : Nat) (ps : List Str) (sp : Sp) : Prop :=
  ∃ f fd, mg x = some (.ref f) ∧ FnOk P w K mg base CX0 k f fd ps sp ∧ PySem.W.keepIn K (.ref f) = true ∧ Binds K fd ps []
section
variable {X : Cx} {x : Str} {p pos : Pos} {k j : Nat} {ps : List Str} {sp : Sp} {e : Expr} {es : List Expr} {t : TA}
theorem pe_df (D : Df X.prog X.w X.K X.mg X.base x k ps sp) (hr : Room j X.A) (ha : PA X (e :: es) t) (hk : k ≤ j := by decide) (hg : Gl X x := by rfl) (hdb : (x == ("__debug__" : Str)) = false := by decide)
    (he : starEach (e :: es) X.env = (false, eval e X.env) :: starEach es X.env := by rfl) (hpl : (backTo pos (starEach es X.env)).any (·.1) = false := by rfl) : PE X (.Call (.Name x p) (e :: es) [] pos) (tCall sp [] E0 t) := by
  obtain ⟨f, fd, hm, F, kp, hb⟩ := D
  exact pe_call F (hr.mono hk) hg hm kp hb .nil pass0 ha hdb he hpl
theorem pe_df0 (D : Df X.prog X.w X.K X.mg X.base x k ps sp) (hr : Room j X.A) (hk : k ≤ j := by decide) (hg : Gl X x := by rfl) (hdb : (x == ("__debug__" : Str)) = false := by decide) : PE X (.Call (.Name x p) [] [] pos) (tCall sp [] E0 tNil) := by
  obtain ⟨f, fd, hm, F, kp, hb⟩ := D
  exact pe_call0 F (hr.mono hk) hg hm kp hb .nil pass0 hdb
end
section
variable {P : Program} {w : World} {K : PySem.W.Frag} {mg : Str → Option Value} {base : Heap} {gx x qual : Str} {params : Arguments} {body : List Stmt} {scope : Scope} {f : Addr} {fd : FuncData}
theorem df_mk {N ps : List Str} {k : Nat} {sp : Sp} (hg : mg gx = some (.ref f)) (F : FunD K x qual params body scope [] [] f fd) (S : FnScope N ps scope) (len : ∀ vs H Q E, sp vs H Q E → vs.length = ps.length)
    (hb : ∀ (kV doc pm : Value) (an : Option Addr) (cdv ct : Value) (us : List Value), us.length = ps.length → bindArgs (PySem.W.fnOf x qual params body scope .none kV doc pm an cdv ct) ⟨us, []⟩ = pure (ps.zip us))
    (hbody : ∀ (cdv : Value) (A : Around) (outer : List Env) (s : Shared) (H : Hp) (vs : List V) (Q : VK) (E : XK), Room k (A.deeper (envOfC qual scope s.heap.objs.size f cdv)) → sp vs H Q E →
      ∃ t, PSs (cxOf CX0 P w K mg base N qual scope f cdv A outer s H E).nox body t ∧ t { nx := fun _ H' => Q .non H', rt := Q } (start N vs) H) : Df P w K mg base gx (k + 1) ps sp :=
  ⟨f, fd, hg, F.ok S len (fun cdv A outer s H vs Q E hr h => by
    obtain ⟨t, h1, h2⟩ := hbody cdv A outer s H vs Q E hr h
    exact ⟨t, PSs.nox h1, h2⟩), F.kp, F.bindsN hb⟩
end
end K67
end
/-! ## K67Data -/
section
set_option maxHeartbeats 4000000
/-! K67Data: the hand layer's readings, told over data -/
namespace K67
open PySem PySem.Spec PyProof.Rows L2 LamX
local macro_rules | `(tactic| walk_at "sm") => `(tactic| first | assumption | exact Sm.refl _ _ | (refine Sm.trans ?_ (by assumption); walk_at "sm"))
local macro_rules | `(tactic| walk_at "ts") => `(tactic| first | assumption | exact TS.refl _ | (refine TS.trans ?_ (by assumption); walk_at "ts") | (refine TS.trans ?_ (Sm.ts (by assumption)); walk_at "ts"))
local macro_rules | `(tactic| walk_at "tp") => `(tactic| first | assumption | exact Tp.int _ | exact Tp.str _ | exact Tp.non | (refine Tp.ts (H := ?_) ?_ _ _ (by assumption); walk_at "ts"))
local macro_rules | `(tactic| walk_at "tps") => `(tactic| first | assumption | exact Tps.nil | (refine Tps.cons ?_ ?_; · walk_at "tp"; · walk_at "tps") | (refine Tps.ts (H := ?_) ?_ _ _ (by assumption); walk_at "ts"))
local macro_rules | `(tactic| walk_at "rd") => `(tactic| try simp only [rMax2, and_assoc, tYes, tSeq, tIfS, tRet, tNext, tTest, tB, tOp, tUn, tVar, tC, tTup, tLst, tCons, tNil, tIf, tCB, tCall, tBM, tBM0, tAsg, gName, gCons, gNil, gSub, tDrop, tPar, tPar3, tAug, tAnd, tOr, tNot, tAndV, tOrV, tNotV, tChain, tSl, tPart, tNoPart, rI0, rI, rU, rEq, rNe, L2.start, wipe, sz0, sz1, sz2, sz3, sz4, sz5, sz6, List.map_cons, List.map_nil, List.length_cons, List.length_nil, List.cons_append, List.nil_append, List.append_nil, List.getElem?_cons_zero, List.getElem?_cons_succ, List.set_cons_zero, List.set_cons_succ, List.replicate_zero, List.replicate_succ, Option.some.injEq, V.bl.injEq, V.int.injEq, V.str.injEq, List.cons.injEq, and_true, true_and, exists_eq_left', exists_eq_left, exists_eq', exists_eq, exists_and_left, Nat.reduceSub, Nat.reduceAdd, Nat.reduceLeDiff, decide_true, decide_false, if_true, if_false, Bool.false_eq_true, reduceIte])

section
variable {T : List (Addr × Str)} {K : PySem.W.Frag} {H : Hp} {x y : V} {d e : NestedKey} {ds es : List NestedKey} {Q : VK}
/-- the type's name of a datum -/
def tyD : NestedKey → String
  | .none => "NoneType"
  | .num _ => "int"
  | .text _ => "str"
  | .tup _ => "tuple"
theorem tyx_of (h : Tp H x d) : TyX K H x (.type (tyD d)) := by
  cases h with
  | non => exact .base .non
  | int i => exact .base (.int i)
  | str z => exact .base (.str z)
  | tup h1 _ =>
    rcases h1 with h1 | ⟨o, h1⟩
    · exact .base (.tup h1)
    · exact .fTuple h1
theorem isi_d {b : String} {r : Bool} (h : Tp H x d) (hk : kitB (tyD d) b = some r) (q : Q (.bl r) H) : rIsi K [x, .ty b] H Q := ⟨x, .ty b, _, _, r, rfl, .ty b, tyx_of h, kit_ty hk, q⟩
theorem Tp.sq (h : Tp H x (.tup ds)) : ∃ a xs, x = .ref a ∧ SqT K H a xs ∧ Tps H xs ds := by
  obtain ⟨a, vs, e, h1, h2⟩ := h.tup_inv
  exact ⟨a, vs, e, .inl h1, h2⟩
/-- t[i] -/
theorem ix_d {i : Nat} (h : Tp H x (.tup ds)) (hi : ds[i]? = some d) (k : ∀ v, Tp H v d → Q v H) : rIxT K x (.int (i : Int)) H Q := by
  obtain ⟨a, xs, rfl, h1, h2⟩ := h.sq (K := K)
  obtain ⟨v, hv, tv⟩ := h2.get hi
  exact ⟨a, xs, _, v, rfl, rfl, h1, atI_nat hv, k v tv⟩
/-- a tuple made -/
theorem tup_d {xs : List V} (h : Tps H xs ds) (k : ∀ v H', Sm T H H' → Tp H' v (.tup ds) → Q v H') : ∀ p, H p = none → Q (.ref p) (upd H p (.tup xs)) :=
  fun p hp => k _ _ (Sm.new hp) (.tup (.inl upd_same) (Tps.ts (Sm.new (T := T) hp).ts _ _ h))
/-- t + u -/
theorem cat_d (h : Tp H x (.tup ds)) (h' : Tp H y (.tup es)) (hl : ds.length + es.length ≤ 100000) (k : ∀ v H', Sm T H H' → Tp H' v (.tup (ds ++ es)) → Q v H') : rCatA K x y H Q := by
  obtain ⟨a, xs, rfl, h1, h2⟩ := h.sq (K := K)
  obtain ⟨b, ys, rfl, h3, h4⟩ := h'.sq (K := K)
  refine ⟨a, b, xs, ys, rfl, rfl, h1, h3, sz_le' (by rw [h2.length, h4.length]; omega), fun e => ?_, fun _ e => ?_, fun _ _ p hp => ?_⟩
  · subst e
    have := h2.length
    have e : ds = [] := List.eq_nil_of_length_eq_zero this.symm
    subst e
    exact k _ _ (Sm.refl _ _) h'
  · subst e
    have := h4.length
    have e : es = [] := List.eq_nil_of_length_eq_zero this.symm
    subst e
    rw [List.append_nil] at k
    exact k _ _ (Sm.refl _ _) h
  · exact k _ _ (Sm.new hp) (.tup (.inl upd_same) (Tps.ts (Sm.new (T := T) hp).ts _ _ (h2.append h4)))
/-- t[lo:hi] -/
theorem sl_d {lo hi : Option Int} {es : List NestedKey} (h : Tp H x (.tup ds)) (he : (ds.drop (HT.sIx ds.length 0 lo)).take (HT.sIx ds.length ds.length hi - HT.sIx ds.length 0 lo) = es) (k : ∀ v H', Sm T H H' → Tp H' v (.tup es) → Q v H') : rSlA K x lo hi H Q := by
  obtain ⟨a, xs, rfl, h1, h2⟩ := h.sq (K := K)
  have hl := h2.length
  refine ⟨a, xs, rfl, h1, fun e => ?_, fun _ p hp => ?_⟩
  · rw [hl] at e
    rw [e.1, e.2, List.drop_zero, Nat.sub_zero, List.take_length] at he
    subst he
    exact k _ _ (Sm.refl _ _) h
  · refine k _ _ (Sm.new hp) (.tup (.inl upd_same) (Tps.ts (Sm.new (T := T) hp).ts _ _ ?_))
    rw [← he]
    unfold cutV
    rw [hl]
    exact (h2.drop _).take _
/-- tuple(xs) of a list; list(t) -/
def rTupOf (K : PySem.W.Frag) : List V → Hp → VK → Prop := fun xs H Q => ∃ p ys, xs = [.ref p] ∧ ((SqL K H p ys ∧ ∀ l, H l = none → Q (.ref l) (upd H l (.tup ys))) ∨ (SqT K H p ys ∧ Q (.ref p) H))
theorem call_tupOf {X : Cx} : CallR X (.type "tuple") (rTupOf X.K) := call_tuple_of
theorem tuple_d {a : Addr} {xs : List V} (h1 : H a = some (.lst xs)) (h2 : Tps H xs ds) (k : ∀ v H', Sm T H H' → Tp H' v (.tup ds) → Q v H') : rTupOf K [V.ref a] H Q :=
  ⟨a, xs, rfl, .inl ⟨.inl (.inl h1), fun l hl => k _ _ (Sm.new hl) (.tup (.inl upd_same) (Tps.ts (Sm.new (T := T) hl).ts _ _ h2))⟩⟩
theorem tuple_t (h : Tp H x (.tup ds)) (k : ∀ v, Tp H v (.tup ds) → Q v H) : rTupOf K [x] H Q := by
  obtain ⟨a, xs, rfl, h1, h2⟩ := h.tup_inv
  exact ⟨a, xs, rfl, .inr ⟨.inl h1, k _ h⟩⟩
def rListOf (K : PySem.W.Frag) : List V → Hp → VK → Prop := fun xs H Q => ∃ p ys, xs = [.ref p] ∧ (SqL K H p ys ∨ SqT K H p ys) ∧ ∀ l, H l = none → Q (.ref l) (upd H l (.lst ys))
theorem call_listOf {X : Cx} : CallR X (.type "list") (rListOf X.K) := call_list_of
theorem list_l {a : Addr} {xs : List V} (h1 : H a = some (.lst xs)) (k : ∀ l H', H l = none → Sm T H H' → H' l = some (.lst xs) → Q (.ref l) H') : rListOf K [V.ref a] H Q :=
  ⟨a, xs, rfl, .inl (.inl (.inl h1)), fun l hl => k l _ hl (Sm.new hl) upd_same⟩
theorem list_t (h : Tp H x (.tup ds)) (k : ∀ l xs H', H l = none → Sm T H H' → H' l = some (.lst xs) → Tps H' xs ds → Q (.ref l) H') : rListOf K [x] H Q := by
  obtain ⟨a, xs, rfl, h1, h2⟩ := h.tup_inv
  exact ⟨a, xs, rfl, .inr (.inl h1), fun l hl => k l xs _ hl (Sm.new hl) upd_same (Tps.ts (Sm.new (T := T) hl).ts _ _ h2)⟩
theorem isi_i {b : String} {r : Bool} {i : Int} (hk : kitB "int" b = some r) (q : Q (.bl r) H) : rIsi K [.int i, .ty b] H Q := isi_d (.int i) hk q
theorem isi_s {b : String} {r : Bool} {z : Str} (hk : kitB "str" b = some r) (q : Q (.bl r) H) : rIsi K [.str z, .ty b] H Q := isi_d (.str z) hk q
theorem isi_t {b : String} {r : Bool} (h : Tp H x (.tup ds)) (hk : kitB "tuple" b = some r) (q : Q (.bl r) H) : rIsi K [x, .ty b] H Q := isi_d h hk q
theorem isi_n {b : String} {r : Bool} (hk : kitB "NoneType" b = some r) (q : Q (.bl r) H) : rIsi K [.non, .ty b] H Q := isi_d .non hk q
end
theorem sz1 : (1 ≤ sizeLine) = True := eq_true (by decide)
theorem sz2 : (2 ≤ sizeLine) = True := eq_true (by decide)
theorem sz3 : (3 ≤ sizeLine) = True := eq_true (by decide)
theorem sz4 : (4 ≤ sizeLine) = True := eq_true (by decide)
theorem sz5 : (5 ≤ sizeLine) = True := eq_true (by decide)
theorem sz6 : (6 ≤ sizeLine) = True := eq_true (by decide)
theorem sz0 : (0 ≤ sizeLine) = True := eq_true (by decide)
/-! ### targets that are tuples -/
section
variable {T : List (Addr × Str)} {K : PySem.W.Frag} {H : Hp} {x : V} {d1 d2 d3 : NestedKey} {σ : L2.St} {t : TGs} {Q : L2.St → Hp → Prop}
theorem gT_d {ds : List NestedKey} {n : Nat} (h : Tp H x (.tup ds)) (hn : ds.length = n) (k : ∀ vs, Tps H vs ds → t vs σ H Q) : gTup K n t x σ H Q := by
  obtain ⟨a, xs, rfl, h1, h2⟩ := h.sq (K := K)
  exact ⟨a, xs, rfl, h1, h2.length.trans hn, k xs h2⟩
theorem gT2 (h : Tp H x (.tup [d1, d2])) (k : ∀ v1 v2, Tp H v1 d1 → Tp H v2 d2 → t [v1, v2] σ H Q) : gTup K 2 t x σ H Q := gT_d h rfl fun vs hs => by
  obtain ⟨v1, r1, rfl, t1, h1⟩ := hs.cons_inv
  obtain ⟨v2, r2, rfl, t2, h2⟩ := h1.cons_inv
  obtain rfl := h2.nil_inv
  exact k _ _ t1 t2
theorem gT3 (h : Tp H x (.tup [d1, d2, d3])) (k : ∀ v1 v2 v3, Tp H v1 d1 → Tp H v2 d2 → Tp H v3 d3 → t [v1, v2, v3] σ H Q) : gTup K 3 t x σ H Q := gT_d h rfl fun vs hs => by
  obtain ⟨v1, r1, rfl, t1, h1⟩ := hs.cons_inv
  obtain ⟨v2, r2, rfl, t2, h2⟩ := h1.cons_inv
  obtain ⟨v3, r3, rfl, t3, h3⟩ := h2.cons_inv
  obtain rfl := h3.nil_inv
  exact k _ _ _ t1 t2 t3
/-- a pair that was just laid -/
theorem gP {p : Addr} {v1 v2 : V} (h : H p = some (.tup [v1, v2])) (k : t [v1, v2] σ H Q) : gTup K 2 t (.ref p) σ H Q := ⟨p, _, rfl, .inl (.inl h), rfl, k⟩
end
/-! ### comprehensions -/
theorem Paired.at_ {α β : Type} {R : α → β → Prop} : ∀ {xs : List α} {ys : List β} {i : Nat} {x : α}, Paired R xs ys → xs[i]? = some x → ∃ y, ys[i]? = some y ∧ R x y
  | _, _, _, _, .nil, e => by simp at e
  | _, _, 0, _, .cons r _, e => by simp at e; subst e; exact ⟨_, rfl, r⟩
  | _, _, i + 1, v, .cons _ t, e => by
    obtain ⟨u, h1, h2⟩ := Paired.at_ (i := i) (x := v) t (by simpa using e)
    exact ⟨u, by simpa using h1, h2⟩
section
variable {T : List (Addr × Str)} {K : PySem.W.Frag} {H : Hp} {σ : L2.St} {vs : List Nat} {tl te : TE} {ta : TA} {g : TG} {tt : TT} {Q : VK} {α β : Type}
/-- the turn of a comprehension: the element y tells b, or the item is left out -/
abbrev Turn' (T : List (Addr × Str)) (g : TG) (tt : TT) (te : TE) (vs : List Nat) (σ : L2.St) (R : Hp → V → β → Prop) (o : Option β) (x : V) (H : Hp) : Prop :=
  ∀ (Qy : V → Hp → Prop) (Qn : Hp → Prop), (∀ y b H2, o = some b → Sm T H H2 → R H2 y b → Qy y H2) → (∀ H2, o = none → Sm T H H2 → Qn H2) →
    g x (wipe σ vs) H fun σ2 H2 => wipe σ2 vs = wipe σ vs ∧ tt σ2 H2 fun b H3 => if b = true then te σ2 H3 Qy else Qn H3
theorem lcT (as : List α) (en : α → NestedKey) (R : Addr → Hp → V → β → Prop) (F : α → Option β)
    (h : ∀ Q' : VK, (∀ v H', Sm T H H' → Tp H' v (.tup (as.map en)) → Q' v H') → tl σ H Q') (hl : as.length ≤ 100000) (hR : ∀ D H H' v b, XBut D H H' → R D H v b → R D H' v b)
    (hs : ∀ D (i : Nat) x a H1, as[i]? = some a → Sm T H H1 → Tp H1 x (en a) → (∃ ys, H1 D = some (.lst ys)) → Turn' T g tt te vs σ (R D) (F a) x H1)
    (hd : ∀ D H1 ys, Sm T H H1 → H1 D = some (.lst ys) → Paired (R D H1) ys (as.filterMap F) → Q (.ref D) H1) : tLc (iTup K tl) g tt te vs σ H Q := by
  refine h _ fun v H1 e1 tv => ?_
  obtain ⟨a, xs, rfl, h1, h2⟩ := tv.tup_inv
  have hn : xs.length = as.length := by rw [h2.length, List.length_map]
  refine ⟨a, rfl, ⟨xs, .inl h1⟩, fun D hD => ?_⟩
  refine lc_dat (T := T) (walk_tup (K := K) (a := a) (xs := xs)) (R D) (fun i => as[i]?.bind F) hD (fun H' e => .inl (e.rd h1)) (by omega) (hR D) (fun i x H2 H2' hi e2 hDs y Qy Qn hy hnn => ?_) (fun H' ys e2 hD' pr => ?_)
  · obtain ⟨rfl, hx⟩ := y
    obtain ⟨d, hd', td⟩ := h2.at_ hx
    rw [List.getElem?_map] at hd'
    obtain ⟨b, hb, rfl⟩ := Option.map_eq_some_iff.mp hd'
    exact hs D i x b H2' hb (e1.trans e2) (Tp.ts e2.ts _ _ td) hDs Qy Qn (fun y b' H3 h1 h2 h3 => hy y b' H3 (by show as[i]?.bind F = _; rw [hb]; exact h1) h2 h3) (fun H3 h1 h2 => hnn H3 (by show as[i]?.bind F = _; rw [hb]; exact h1) h2)
  · rw [hn, fm_at] at pr
    exact hd D H' ys (e1.trans e2) hD' pr
/-- over a list whose items are data -/
theorem lcL (as : List α) (IR : Hp → V → α → Prop) (R : Addr → Hp → V → β → Prop) (F : α → Option β)
    (h : ∀ Q' : VK, (∀ a xs H', Sm T H H' → H' a = some (.lst xs) → Paired (IR H') xs as → Q' (.ref a) H') → tl σ H Q') (hl : as.length ≤ 100000) (hIR : ∀ H H' v b, Sm T H H' → IR H v b → IR H' v b) (hR : ∀ D H H' v b, XBut D H H' → R D H v b → R D H' v b)
    (hs : ∀ D (i : Nat) x a H1, as[i]? = some a → Sm T H H1 → IR H1 x a → (∃ ys, H1 D = some (.lst ys)) → Turn' T g tt te vs σ (R D) (F a) x H1)
    (hd : ∀ D H1 ys, Sm T H H1 → H1 D = some (.lst ys) → Paired (R D H1) ys (as.filterMap F) → Q (.ref D) H1) : tLc (iList K tl) g tt te vs σ H Q := by
  refine h _ fun a xs H1 e1 h1 h2 => ?_
  have hn : xs.length = as.length := Paired.length h2
  refine ⟨a, rfl, ⟨xs, .inl (.inl h1)⟩, fun D hD => ?_⟩
  refine lc_dat (T := T) (walk_list (K := K) (a := a) (xs := xs)) (R D) (fun i => as[i]?.bind F) hD (fun H' e => .inl (.inl (e.lst h1))) (by omega) (hR D) (fun i x H2 H2' hi e2 hDs y Qy Qn hy hnn => ?_) (fun H' ys e2 hD' pr => ?_)
  · obtain ⟨rfl, hx⟩ := y
    obtain ⟨b, hb, td⟩ := Paired.at_ h2 hx
    exact hs D i x b H2' hb (e1.trans e2) (hIR _ _ _ _ e2 td) hDs Qy Qn (fun y b' H3 h1 h2 h3 => hy y b' H3 (by show as[i]?.bind F = _; rw [hb]; exact h1) h2 h3) (fun H3 h1 h2 => hnn H3 (by show as[i]?.bind F = _; rw [hb]; exact h1) h2)
  · rw [hn, fm_at] at pr
    exact hd D H' ys (e1.trans e2) hD' pr
/-- over enumerate(a list) -/
theorem lcE (as : List α) (IR : Hp → V → α → Prop) (R : Addr → Hp → V → β → Prop) (F : Nat → α → Option β)
    (h : ∀ Q' : List V → Hp → Prop, (∀ a xs H', Sm T H H' → H' a = some (.lst xs) → Paired (IR H') xs as → Q' [.ref a] H') → ta σ H Q') (hl : as.length ≤ 100000) (hIR : ∀ H H' v b, Sm T H H' → IR H v b → IR H' v b) (hR : ∀ D H H' v b, XBut D H H' → R D H v b → R D H' v b)
    (hs : ∀ D (i : Nat) p x a H1, as[i]? = some a → Sm T H H1 → IR H1 x a → H1 p = some (.tup [.int (i : Int), x]) → (∃ ys, H1 D = some (.lst ys)) → Turn' T g tt te vs σ (R D) (F i a) (.ref p) H1)
    (hd : ∀ D H1 ys, Sm T H H1 → H1 D = some (.lst ys) → Paired (R D H1) ys ((List.range as.length).filterMap fun i => as[i]?.bind (F i)) → Q (.ref D) H1) : tLc (iEnum K ta) g tt te vs σ H Q := by
  refine h _ fun a xs H1 e1 h1 h2 => ?_
  have hn : xs.length = as.length := Paired.length h2
  refine ⟨a, xs, rfl, .inl (.inl h1), fun D hD => ?_⟩
  refine lc_dat (T := T) (walk_enum (K := K) (a := a) (xs := xs)) (R D) (fun i => as[i]?.bind (F i)) hD (fun H' e => .inl (.inl (e.lst h1))) (by omega) (hR D) (fun i x H2 H2' hi e2 hDs y Qy Qn hy hnn => ?_) (fun H' ys e2 hD' pr => ?_)
  · obtain ⟨p, x1, x2, rfl, hp, rfl, z1, z2⟩ := y
    obtain rfl : V.int (i : Int) = x1 := Option.some.inj z1
    obtain ⟨b, hb, td⟩ := Paired.at_ h2 z2
    have e3 : Sm T H2 (upd H2 p (.tup [.int (i : Int), x2])) := Sm.new hp
    obtain ⟨ys0, hy0⟩ := hDs
    exact hs D i p x2 b _ hb ((e1.trans e2).trans e3) (hIR _ _ _ _ (e2.trans e3) td) upd_same ⟨ys0, e3.lst hy0⟩ Qy Qn (fun y b' H3 h1 h2 h3 => hy y b' H3 (by show as[i]?.bind (F i) = _; rw [hb]; exact h1) (e3.trans h2) h3) (fun H3 h1 h2 => hnn H3 (by show as[i]?.bind (F i) = _; rw [hb]; exact h1) (e3.trans h2))
  · rw [hn] at pr
    exact hd D H' ys (e1.trans e2) hD' pr
/-- over range(n) -/
theorem lcR (n : Nat) (R : Addr → Hp → V → β → Prop) (F : Nat → Option β)
    (h : ∀ Q' : List V → Hp → Prop, (∀ H', Sm T H H' → Q' [.int (n : Int)] H') → ta σ H Q') (hl : n ≤ 100000) (hR : ∀ D H H' v b, XBut D H H' → R D H v b → R D H' v b)
    (hs : ∀ D (i : Nat) H1, i < n → Sm T H H1 → (∃ ys, H1 D = some (.lst ys)) → Turn' T g tt te vs σ (R D) (F i) (.int (i : Int)) H1)
    (hd : ∀ D H1 ys, Sm T H H1 → H1 D = some (.lst ys) → Paired (R D H1) ys ((List.range n).filterMap F) → Q (.ref D) H1) : tLc (iRng1 ta) g tt te vs σ H Q := by
  refine h _ fun H1 e1 => ?_
  refine ⟨n, rfl, by omega, by omega, fun D hD => ?_⟩
  rw [show ((n : Nat) : Int).toNat = n from Int.toNat_natCast n]
  refine lc_dat (T := T) (walk_range (lo := 0) (n := n)) (R D) F hD (fun _ _ => trivial) (by omega) (hR D) (fun i x H2 H2' hi e2 hDs y Qy Qn hy hnn => ?_) (fun H' ys e2 hD' pr => hd D H' ys (e1.trans e2) hD' pr)
  obtain ⟨rfl, rfl⟩ := y
  have e0 : V.int ((0 : Int) + (i : Int)) = V.int (i : Int) := by rw [Int.zero_add]
  show g (V.int ((0 : Int) + (i : Int))) _ _ _
  rw [e0]
  exact hs D i H2' hi (e1.trans e2) hDs Qy Qn hy hnn
end
theorem fm_map {α β : Type} (f : α → β) (l : List α) : l.filterMap (fun a => some (f a)) = l.map f := by simp
theorem r_tp : ∀ (D : Addr) (H H' : Hp) (v : V) (b : NestedKey), XBut D H H' → Tp H v b → Tp H' v b := fun _ _ _ _ _ e h => Tp.ts e.1 _ _ h
theorem ir_tp {T : List (Addr × Str)} : ∀ (H H' : Hp) (v : V) (b : NestedKey), Sm T H H' → Tp H v b → Tp H' v b := fun _ _ _ _ e h => Tp.ts e.ts _ _ h
/-! ### rules with the written part named (within a comprehension's block too) -/
section
variable {X : Cx} {K : PySem.W.Frag}
theorem ix_tupK (h : X.K = K) : IxR X (rIxT K) := by subst h; exact ix_tup
theorem ix_listK (h : X.K = K) : IxR X (rIxL K) := by subst h; exact ix_list
theorem sl_tupK (h : X.K = K) : SlR X (rSlA K) := by subst h; exact sl_tupA
theorem sl_listK (h : X.K = K) : SlR X (rSlL K) := by subst h; exact sl_list
theorem op_catK (h : X.K = K) : OpR X (binaryOp .Add) (rCatA K) := by subst h; exact op_catA
theorem op_inK (h : X.K = K) : OpR X (compareOp .In) (rIn K false) := by subst h; exact op_in_seq
theorem op_notInK (h : X.K = K) : OpR X (compareOp .NotIn) (rIn K true) := by subst h; exact op_notIn_seq
theorem isiK (h : X.K = K) : CallR X (.builtin "isinstance") (rIsi K) := by subst h; exact call_isi
theorem tupOfK (h : X.K = K) : CallR X (.type "tuple") (rTupOf K) := by subst h; exact call_tupOf
theorem listOfK (h : X.K = K) : CallR X (.type "list") (rListOf K) := by subst h; exact call_listOf
theorem allK (h : X.K = K) (hc : X.calm = true) : CallR X (.builtin "all") (rAll K) := by subst h; exact cr_all hc
theorem minK (h : X.K = K) (hc : X.calm = true) : CallR X (.builtin "min") (rMin K) := by subst h; exact cr_min hc
def rLenS (K : PySem.W.Frag) : List V → Hp → VK → Prop := fun xs H Q => ∃ p ys, xs = [.ref p] ∧ (SqL K H p ys ∨ SqT K H p ys) ∧ Q (.int ys.length) H
theorem lenK (h : X.K = K) : CallR X (.builtin "len") (rLenS K) := by subst h; exact call_len_seq
theorem indexK (h : X.K = K) : MtR X "list.index" (rIndex K) := by subst h; exact mt_index
theorem len_t {H : Hp} {x : V} {ds : List NestedKey} {Q : VK} (h : Tp H x (.tup ds)) (k : Q (.int ds.length) H) : rLenS K [x] H Q := by
  obtain ⟨a, xs, rfl, h1, h2⟩ := h.tup_inv
  exact ⟨a, xs, rfl, .inr (.inl h1), by rw [h2.length]; exact k⟩
theorem len_l {H : Hp} {a : Addr} {xs : List V} {Q : VK} (h : H a = some (.lst xs)) (k : Q (.int xs.length) H) : rLenS K [.ref a] H Q := ⟨a, xs, rfl, .inl (.inl (.inl h)), k⟩
def rMax2 : List V → Hp → VK → Prop := fun xs H Q => ∃ i j, xs = [V.int i, V.int j] ∧ Q (V.int (max i j)) H
theorem call_maxK (hc : X.calm = true) : CallR X (.builtin "max") rMax2 := by
  intro pins s σ H xs us Q I r h
  obtain ⟨i, j, e, q⟩ := h
  refine call_max2 hc pins s σ H xs us Q I r ⟨i, j, e, ?_⟩
  have e2 : (if j > i then j else i) = max i j := by
    by_cases c : j > i
    · rw [if_pos c]; omega
    · rw [if_neg c]; omega
  rw [e2]
  exact q
theorem pg_tupK {es : List Expr} {k : Nat} {t : TGs} {n : Nat} {pos : Pos} (hK : X.K = K) (hc : X.calm = true) (h : PGs X es t) (hn : (assignEach es X.env).length = n := by rfl) (hst : (assignEach es X.env).findIdx? (·.1) = none := by rfl) : PG X (.Tuple es k pos) (gTup K n t) := by
  subst hK; exact pg_tup hc h hn hst
theorem pi_tupK {tg l : Expr} {tl : TE} (hK : X.K = K) (hl : PE X l tl) : PI X tg l (iTup K tl) := by subst hK; exact pi_tup hl
theorem pi_listK {tg l : Expr} {tl : TE} (hK : X.K = K) (hl : PE X l tl) : PI X tg l (iList K tl) := by subst hK; exact pi_list hl
theorem pi_enumK {e : Expr} {ta : TA} {p pos tpos : Pos} {elts : List Expr} {kk : Nat} (hK : X.K = K) (hg : Gl X "enumerate") (hm : X.mg "enumerate" = none) (ha : PA X [e] ta) (hs : starEach [e] X.env = [(false, eval e X.env)] := by rfl) :
    PI X (.Tuple elts kk tpos) (.Call (.Name "enumerate" p) [e] [] pos) (iEnum K ta) := by subst hK; exact pi_enum hg hm ha hs
theorem pi_zipK {e e2 : Expr} {ta : TA} {p pos tpos : Pos} {elts : List Expr} {kk : Nat} (hK : X.K = K) (hg : Gl X "zip") (hm : X.mg "zip" = none) (ha : PA X [e, e2] ta)
    (hs : starEach [e, e2] X.env = (false, eval e X.env) :: starEach [e2] X.env := by rfl) (hpl : (backTo pos (starEach [e2] X.env)).any (·.1) = false := by rfl) :
    PI X (.Tuple elts kk tpos) (.Call (.Name "zip" p) [e, e2] [] pos) (iZip K ta) := by subst hK; exact pi_zip hg hm ha hs hpl
theorem pe_bm0K {T name id : String} {r : V → List V → Hp → VK → Prop} {o : Expr} {to : TE} {apos cpos : Pos} (hK : X.K = K) (pa : PlainAttrs T) (slot : Slot T name id) (hty : typeOf (.builtin id) = pure (.type "method_descriptor")) (hm : MtR X id r) (ho : PE X o to)
    (hbase : attributeBase o name X.env (eval o X.env) = eval o X.env := by rfl) (hline : (apos.endLine == cpos.line) = true := by rfl) : PE X (.Call (.Attribute o name apos) [] [] cpos) (tBM0 K T r to) := by
  subst hK; exact pe_bm0 pa slot hty hm ho hbase hline
theorem pe_bmK {T name id : String} {r : V → List V → Hp → VK → Prop} {o e : Expr} {es : List Expr} {to : TE} {t : TA} {apos cpos : Pos} (hK : X.K = K) (pa : PlainAttrs T) (slot : Slot T name id) (hty : typeOf (.builtin id) = pure (.type "method_descriptor")) (hm : MtR X id r) (ho : PE X o to) (ha : PA X (e :: es) t)
    (hbase : attributeBase o name X.env (eval o X.env) = eval o X.env := by rfl)
    (hfew : ((backTo cpos (starEach (e :: es) X.env)).all (fun x => !x.1) && (backToKw cpos (keywordEach [] X.env)).all (fun x => x.1.isSome)
      && decide ((e :: es).length + ([] : List Keyword).length + (if ([] : List Keyword).isEmpty then 0 else 1) < 30)) = true := by rfl)
    (hline : (apos.endLine == cpos.line) = true := by rfl) (hs : starEach (e :: es) X.env = (false, eval e X.env) :: starEach es X.env := by rfl) (hplain : (backTo cpos (starEach es X.env)).any (·.1) = false := by rfl) :
    PE X (.Call (.Attribute o name apos) (e :: es) [] cpos) (tBM K T r to t) := by
  subst hK; exact pe_bm pa slot hty hm ho ha hbase hfew hline hs hplain
theorem pe_revK {e : Expr} {te : TE} {k : Nat} {p1 p2 p3 pos : Pos} (hK : X.K = K) (he : PE X e te) : PE X (.Subscript e (.Slice none none (some (.UnaryOp .USub (.Constant (.int 1) k p1) p2)) p3) pos) (tRevL K te) := by subst hK; exact pe_revL he
end
end K67
end
/-! ## K67Eq -/
section
set_option maxHeartbeats 4000000
/-! K67Eq: == and != of data, of lists of data, of lists of such lists -/
namespace K67
open PySem PySem.Spec PyProof.Rows L2 SeqAt
theorem beqAll_dec (xs ys : List NestedKey) : NestedKey.beqAll xs ys = decide (xs = ys) := by
  have h := NestedKey.decide_eq (.tup xs) (.tup ys)
  rw [show NestedKey.beq (.tup xs) (.tup ys) = NestedKey.beqAll xs ys from rfl] at h
  rw [← h]
  by_cases e : xs = ys
  · subst e; simp
  · rw [decide_eq_false e, decide_eq_false (fun q => e (NestedKey.tup.inj q))]
section
variable {A : Around} {s : Shared} {l b : Addr} {vs ws : Array Value} {ds es : List NestedKey}
theorem keys_all (h1 : vs.size = ds.length) (h2 : ws.size = es.length) (hsz : vs.size = ws.size) : (List.range vs.size).all (keyEqAt ds es) = decide (ds = es) := by
  rw [← beqAll_dec, ← beqAll_eq, ← h1, ← h2, ← hsz, Nat.min_self]
  simp
theorem eqAt_list (hl : s.heap.IsList l vs) (hb : s.heap.IsList b ws) (k1 : NestedAll s.heap ds vs.toList) (k2 : NestedAll s.heap es ws.toList) (hu : A.units + 1 + NestedKey.depthAll ds < cLine) (hu1 : A.in1.units = A.units + 1) : EqAt A s (.ref l) (.ref b) (decide (ds = es)) := by
  have n1 : vs.size = ds.length := by simpa using NestedAll.length _ _ k1
  have n2 : ws.size = es.length := by simpa using NestedAll.length _ _ k2
  by_cases hlb : l = b
  · subst hlb
    obtain ⟨o, ho, hc, n, hd⟩ := hl
    obtain ⟨o', ho', hc', n', hd'⟩ := hb
    rw [ho] at ho'; cases ho'
    rw [hd] at hd'; cases hd'
    rw [NestedAll.inj ds es _ k1 k2, decide_eq_true rfl]
    exact EqAt.same _
  · refine EqAt.of_refs hlb ?_
    by_cases hsz : vs.size = ws.size
    · rw [← keys_all n1 n2 hsz]
      refine RcAt.lists hl hb hsz (by omega) fun j j1 j2 => ?_
      have := eqAt_keys ds es A.in1 s vs.toList ws.toList k1 k2 (by rw [hu1]; omega) j (by simpa using j1) (by simpa using j2)
      simpa using this
    · have ne : ds ≠ es := fun e => hsz (by rw [n1, n2, e])
      rw [decide_eq_false ne]
      exact RcAt.lists_lengths hl hb (by simpa using hsz) (by omega)
theorem neAt_list (hl : s.heap.IsList l vs) (hb : s.heap.IsList b ws) (k1 : NestedAll s.heap ds vs.toList) (k2 : NestedAll s.heap es ws.toList) (hu : A.units + 1 + NestedKey.depthAll ds < cLine) (hu1 : A.in1.units = A.units + 1) : RcNeAt A s (.ref l) (.ref b) (!decide (ds = es)) := by
  have n1 : vs.size = ds.length := by simpa using NestedAll.length _ _ k1
  have n2 : ws.size = es.length := by simpa using NestedAll.length _ _ k2
  by_cases hsz : vs.size = ws.size
  · rw [← keys_all n1 n2 hsz]
    refine RcNeAt.lists hl hb hsz (by omega) fun j j1 j2 => ?_
    have := eqAt_keys ds es A.in1 s vs.toList ws.toList k1 k2 (by rw [hu1]; omega) j (by simpa using j1) (by simpa using j2)
    simpa using this
  · have ne : ds ≠ es := fun e => hsz (by rw [n1, n2, e])
    rw [decide_eq_false ne]
    exact RcNeAt.lists_lengths hl hb (by simpa using hsz) (by omega)
theorem neAt_tup (hl : s.heap.IsTuple l vs) (hb : s.heap.IsTuple b ws) (k1 : NestedAll s.heap ds vs.toList) (k2 : NestedAll s.heap es ws.toList) (hu : A.units + 1 + NestedKey.depthAll ds < cLine) (hu1 : A.in1.units = A.units + 1) : RcNeAt A s (.ref l) (.ref b) (!decide (ds = es)) := by
  have n1 : vs.size = ds.length := by simpa using NestedAll.length _ _ k1
  have n2 : ws.size = es.length := by simpa using NestedAll.length _ _ k2
  rw [← beqAll_dec, ← beqAll_eq, ← n1, ← n2]
  refine RcNeAt.tuples hl hb (by omega) fun j j1 j2 => ?_
  have := eqAt_keys ds es A.in1 s vs.toList ws.toList k1 k2 (by rw [hu1]; omega) j (by simpa using j1) (by simpa using j2)
  simpa using this
end
/-! ### the layer's words -/
section
variable {X : Cx} {pins : List (Addr × Obj)} {σ : L2.St} {H : Hp} {s : Shared} {a : Addr} {xs : List V} {ds : List NestedKey}
theorem lst_at (I : Inv X pins σ H s) (h : H a = some (.lst xs)) (t : Tps H xs ds) : ∃ its : List Value, s.heap.IsList a its.toArray ∧ NestedAll s.heap ds its := by
  obtain ⟨_, its, n, rv, e⟩ := I.hok _ _ h
  exact ⟨its, ⟨_, e, rfl, n, rfl⟩, Tps.nested I.hok _ _ _ t rv⟩
theorem tup_at (I : Inv X pins σ H s) (h : Rd H a (.tup xs)) (t : Tps H xs ds) : ∃ its : List Value, s.heap.IsTuple a its.toArray ∧ NestedAll s.heap ds its := by
  obtain ⟨_, its, rv, o, ho, hc, n, hd⟩ := h.ok I.hok
  exact ⟨its, ⟨o, ho, hc, n, hd⟩, Tps.nested I.hok _ _ _ t rv⟩
end
/-- tuples of data: not equal -/
def rNeK : R2 := fun x y H Q => ∃ ds es, Tp H x (.tup ds) ∧ Tp H y (.tup es) ∧ NestedKey.depthAll ds ≤ 50 ∧ Q (.bl (!decide (ds = es))) H
/-- lists of data -/
def LsK (H : Hp) (v : V) (ds : List NestedKey) : Prop := ∃ a xs, v = .ref a ∧ H a = some (.lst xs) ∧ Tps H xs ds
def rNeLK : R2 := fun x y H Q => ∃ ds es, LsK H x ds ∧ LsK H y es ∧ NestedKey.depthAll ds ≤ 50 ∧ Q (.bl (!decide (ds = es))) H
/-- lists of lists of data -/
def rNeLLK : R2 := fun x y H Q => ∃ a b xs ys dss ess, x = .ref a ∧ y = .ref b ∧ H a = some (.lst xs) ∧ H b = some (.lst ys) ∧ Paired (LsK H) xs dss ∧ Paired (LsK H) ys ess ∧ (∀ ds ∈ dss, NestedKey.depthAll ds ≤ 50) ∧ Q (.bl (!decide (dss = ess))) H
theorem all_dec {α : Type} [DecidableEq α] : ∀ (xs ys : List α), xs.length = ys.length → (List.range xs.length).all (fun j => decide (xs[j]? = ys[j]?)) = decide (xs = ys)
  | [], [], _ => rfl
  | [], _ :: _, h => by simp at h
  | _ :: _, [], h => by simp at h
  | x :: xs, y :: ys, h => by
    have ih := all_dec xs ys (by simpa using h)
    rw [List.length_cons, List.range_succ_eq_map, List.all_cons, List.all_map]
    have e : ((fun j => decide ((x :: xs)[j]? = (y :: ys)[j]?)) ∘ Nat.succ) = fun j => decide (xs[j]? = ys[j]?) := by
      funext j
      simp
    rw [e, ih]
    by_cases hx : x = y
    · subst hx; simp
    · simp [hx]
section
variable {X : Cx}
theorem op_neK (hu : X.A.units + 64 < cLine) : OpR X (compareOp .NotEq) rNeK := by
  intro pins s σ H x y v u Q I rx ry h
  obtain ⟨ds, es, tx, ty, hd, q⟩ := h
  obtain ⟨a, xs, rfl, h1, h2⟩ := tx.tup_inv
  obtain ⟨b, ys, rfl, h3, h4⟩ := ty.tup_inv
  cases rx; cases ry
  obtain ⟨vs, i1, k1⟩ := tup_at I h1 h2
  obtain ⟨ws, i2, k2⟩ := tup_at I h3 h4
  exact neAt_tup i1 i2 (by simpa using k1) (by simpa using k2) (by omega) rfl _ _ _ _ ⟨.bl _, H, I, rfl, q⟩
theorem op_neLK (hu : X.A.units + 64 < cLine) : OpR X (compareOp .NotEq) rNeLK := by
  intro pins s σ H x y v u Q I rx ry h
  obtain ⟨ds, es, ⟨a, xs, rfl, h1, h2⟩, ⟨b, ys, rfl, h3, h4⟩, hd, q⟩ := h
  cases rx; cases ry
  obtain ⟨vs, i1, k1⟩ := lst_at I h1 h2
  obtain ⟨ws, i2, k2⟩ := lst_at I h3 h4
  exact neAt_list i1 i2 (by simpa using k1) (by simpa using k2) (by omega) rfl _ _ _ _ ⟨.bl _, H, I, rfl, q⟩
theorem op_neLLK (hu : X.A.units + 64 < cLine) : OpR X (compareOp .NotEq) rNeLLK := by
  intro pins s σ H x y v u Q I rx ry h
  obtain ⟨a, b, xs, ys, dss, ess, rfl, rfl, h1, h2, p1, p2, hd, q⟩ := h
  cases rx; cases ry
  obtain ⟨_, vs, n, rv, e1⟩ := I.hok _ _ h1
  obtain ⟨_, ws, m, rw', e2⟩ := I.hok _ _ h2
  have i1 : s.heap.IsList a vs.toArray := ⟨_, e1, rfl, n, rfl⟩
  have i2 : s.heap.IsList b ws.toArray := ⟨_, e2, rfl, m, rfl⟩
  have l1 : vs.length = dss.length := by rw [← rv.length]; exact Paired.length p1
  have l2 : ws.length = ess.length := by rw [← rw'.length]; exact Paired.length p2
  have key : RcNeAt X.A s (.ref a) (.ref b) (!decide (dss = ess)) := by
    by_cases hsz : vs.length = ws.length
    · have ea : (List.range vs.toArray.size).all (fun j => decide (dss[j]? = ess[j]?)) = decide (dss = ess) := by
        rw [List.size_toArray, l1]
        exact all_dec _ _ (by omega)
      rw [← ea]
      refine RcNeAt.lists i1 i2 (by simpa using hsz) (by omega) fun j j1 j2 => ?_
      have j1' : j < vs.length := by simpa using j1
      have j2' : j < ws.length := by simpa using j2
      have one : ∀ {zs : List V} {fss : List (List NestedKey)} {us : List Value} {j : Nat} (hj : j < us.length), Paired (LsK H) zs fss → Vals zs us → ∃ c zz fs, fss[j]? = some fs ∧ us[j] = .ref c ∧ H c = some (.lst zz) ∧ Tps H zz fs := by
        intro zs fss us j hj p r
        have hz : j < zs.length := by rw [r.length]; exact hj
        obtain ⟨u, hu1, r1⟩ := r.get (i := j) (x := zs[j]) (by simp [hz])
        have hfl : j < fss.length := by rw [← Paired.length p]; exact hz
        have hu2 : us[j] = u := by
          rw [List.getElem?_eq_getElem hj] at hu1
          exact Option.some.inj hu1
        have pj : ∀ {zs : List V} {fss : List (List NestedKey)} {j : Nat} {z : V}, Paired (LsK H) zs fss → zs[j]? = some z → ∃ fs, fss[j]? = some fs ∧ LsK H z fs := by
          intro zs fss j z p
          induction p generalizing j with
          | nil => intro e; simp at e
          | cons r t ih =>
            intro e
            cases j with
            | zero => simp at e; subst e; exact ⟨_, rfl, r⟩
            | succ j =>
              obtain ⟨fs, q1, q2⟩ := ih (j := j) (by simpa using e)
              exact ⟨fs, by simpa using q1, q2⟩
        obtain ⟨fs, q1, c, zz, q2, q3, q4⟩ := pj p (j := j) (z := zs[j]) (by simp [hz])
        rw [q2] at r1
        refine ⟨c, zz, fs, q1, ?_, q3, q4⟩
        rw [hu2]
        exact r1
      obtain ⟨c, zz, fs, f1, f2, f3, f4⟩ := one j1' p1 rv
      obtain ⟨c', zz', fs', g1, g2, g3, g4⟩ := one j2' p2 rw'
      obtain ⟨vs1, w1, k1⟩ := lst_at I f3 f4
      obtain ⟨ws1, w2, k2⟩ := lst_at I g3 g4
      have dd := hd fs (List.mem_of_getElem? f1)
      have z := eqAt_list (A := X.A.in1) w1 w2 (by simpa using k1) (by simpa using k2) (by show X.A.units + 1 + 1 + _ < _; omega) rfl
      have e3 : (vs.toArray[j]'j1) = .ref c := by simpa using f2
      have e4 : (ws.toArray[j]'j2) = .ref c' := by simpa using g2
      rw [e3, e4, f1, g1]
      have e5 : decide (some fs = some fs') = decide (fs = fs') := by
        by_cases q : fs = fs'
        · subst q; simp
        · rw [decide_eq_false q, decide_eq_false (fun z => q (Option.some.inj z))]
      rw [e5]
      exact z
    · have ne : dss ≠ ess := fun e => hsz (by rw [l1, l2, e])
      rw [decide_eq_false ne]
      exact RcNeAt.lists_lengths i1 i2 (by simpa using hsz) (by omega)
  exact key _ _ _ _ ⟨.bl _, H, I, rfl, q⟩
end
end K67
end
/-! ## K67Dict -/
section
set_option maxHeartbeats 4000000
/-! K67Dict: dicts whose keys are data (nested tuples) -/
namespace K67
open PySem PySem.Spec PyProof.Rows L2 LamX
abbrev Ent := NestedKey × Addr × V
def EntR : Ent → NestedKey × Addr × Value → Prop := fun p q => p.1 = q.1 ∧ p.2.1 = q.2.1 ∧ RelV p.2.2 q.2.2
/-- a dict with these entries, its keys' own tuples told -/
def DN (P : Program) (w : World) (d : Addr) (es : List Ent) : HO := .ext fun h => es.length ≤ sizeLine ∧ (d == sysModules) = false ∧ ∃ xs : List (NestedKey × Addr × Value), Paired EntR es xs ∧
  ∃ o arr ep, h.get? d = some o ∧ o.ExactDict ∧ o.data = .dict arr ep ∧ arr.toList = xs.map (entryOfKey (nestedKind P w)) ∧ (xs.map (·.1)).Nodup
def kvsOf (es : List Ent) : List (NestedKey × V) := es.map fun e => (e.1, e.2.2)
/-- the dict at d has these entries; its keys stand -/
structure DictE (P : Program) (w : World) (H : Hp) (d : Addr) (es : List Ent) : Prop where
  at_ : H d = some (DN P w d es)
  keys : ∀ e ∈ es, Tp H (.ref e.2.1) e.1 ∧ e.1.depth ≤ 8
def DictK (P : Program) (w : World) (H : Hp) (d : Addr) (kvs : List (NestedKey × V)) : Prop := ∃ es, DictE P w H d es ∧ kvsOf es = kvs
section
variable {P : Program} {w : World} {H H' : Hp} {d : Addr} {es : List Ent} {kvs : List (NestedKey × V)} {h : Heap}
theorem mu_DN : Mu (some (DN P w d es)) := by
  refine ⟨fun _ z => (by unfold DN at z; cases z), fun c q z => ?_, fun _ z => (by unfold DN at z; cases z), fun _ _ z => (by unfold DN at z; cases z)⟩
  unfold DN CodeO at z
  injection z with z
  injection z with z
  let o : Obj := { cls := .none, data := .fields #[.none, .str q 0] }
  let hp : Heap := ⟨Array.replicate (max c d + 1) o, {}⟩
  have hg : ∀ a, a ≤ max c d → hp.get? a = some o := fun a ha => by
    show (match (Array.replicate (max c d + 1) o)[a]? with
      | some ⟨_, _, .freed, _⟩ => none
      | o => o) = some o
    rw [Array.getElem?_replicate, if_pos (Nat.lt_succ_of_le ha)]
  have yes : (∃ (oc : Obj) (vs : Array Value) (t : Tok), hp.get? c = some oc ∧ oc.data = .fields vs ∧ vs[1]? = some (.str q t)) := ⟨o, _, 0, hg c (Nat.le_max_left _ _), rfl, rfl⟩
  have e := congrFun z hp
  rw [← e] at yes
  obtain ⟨_, _, xs, _, o2, arr, ep, h1, _, h3, _⟩ := yes
  rw [hg d (Nat.le_max_right _ _)] at h1
  cases h1
  cases h3
theorem DictE.sm {T : List (Addr × Str)} (e : Sm T H H') (x : DictE P w H d es) : DictE P w H' d es := ⟨e.1 d _ x.at_ (fun ps z => by unfold DN at z; cases z), fun p hp => ⟨Tp.ts e.ts _ _ (x.keys p hp).1, (x.keys p hp).2⟩⟩
theorem DictK.sm {T : List (Addr × Str)} (e : Sm T H H') (x : DictK P w H d kvs) : DictK P w H' d kvs := let ⟨es, a, b⟩ := x; ⟨es, a.sm e, b⟩
theorem DictE.xb {D : Addr} (e : XBut D H H') (n : d ≠ D) (x : DictE P w H d es) : DictE P w H' d es := ⟨e.2 d _ n x.at_ (fun ps z => by unfold DN at z; cases z), fun p hp => ⟨Tp.ts e.1 _ _ (x.keys p hp).1, (x.keys p hp).2⟩⟩
theorem DictK.xb {D : Addr} (e : XBut D H H') (n : d ≠ D) (x : DictK P w H d kvs) : DictK P w H' d kvs := let ⟨es, a, b⟩ := x; ⟨es, a.xb e n, b⟩
theorem DictE.mu (x : DictE P w H d es) : Mu (H d) := by rw [x.at_]; exact mu_DN
theorem DictK.mu (x : DictK P w H d kvs) : Mu (H d) := let ⟨_, a, _⟩ := x; a.mu
theorem entR_keys : ∀ {es : List Ent} {xs : List (NestedKey × Addr × Value)}, Paired EntR es xs → es.map (·.1) = xs.map (·.1)
  | _, _, .nil => rfl
  | _, _, .cons r t => by rw [List.map_cons, List.map_cons, r.1, entR_keys t]
theorem entR_val (k : NestedKey) : ∀ {es : List Ent} {xs : List (NestedKey × Addr × Value)}, Paired EntR es xs → RelO (valV (kvsOf es) k) ((atKey xs k).map (·.2))
  | _, _, .nil => trivial
  | e :: es, x :: xs, .cons r t => by
    by_cases hk : x.1 = k
    · have e1 : valV (kvsOf (e :: es)) k = some e.2.2 := valV_pos (p := (e.1, e.2.2)) (by rw [r.1]; exact hk)
      have e2 : atKey (x :: xs) k = some x.2 := by simp [atKey, hk]
      rw [e1, e2]
      exact r.2.2
    · have e1 : valV (kvsOf (e :: es)) k = valV (kvsOf es) k := valV_neg (p := (e.1, e.2.2)) (by rw [r.1]; exact hk)
      have e2 : atKey (x :: xs) k = atKey xs k := by simp [atKey, hk]
      rw [e1, e2]
      exact entR_val k t
/-- from the abstract heap: the model's own dict -/
theorem DictE.of (ok : HOk P w H h) (x : DictE P w H d es) : es.length ≤ sizeLine ∧ (d == sysModules) = false ∧ ∃ xs, Paired EntR es xs ∧ h.DictOfH (nestedKind P w) d xs := by
  obtain ⟨⟨z, hd, xs, rel, o, arr, ep, h1, h2, h3, h4, h5⟩, _, _⟩ := ok d _ x.at_
  refine ⟨z, hd, xs, rel, o, arr, ep, h1, h2, h3, h4, fun y hy => ?_, h5⟩
  have key : ∀ {es : List Ent} {xs : List (NestedKey × Addr × Value)}, Paired EntR es xs → y ∈ xs → ∃ e ∈ es, e.1 = y.1 ∧ e.2.1 = y.2.1 := by
    intro es xs p
    induction p with
    | nil => intro hy; cases hy
    | cons r t ih =>
      intro hy
      rcases List.mem_cons.mp hy with rfl | hy
      · exact ⟨_, List.mem_cons_self, r.1, r.2.1⟩
      · obtain ⟨e, he, q⟩ := ih hy
        exact ⟨e, List.mem_cons_of_mem _ he, q⟩
  obtain ⟨e, he, e1, e2⟩ := key rel hy
  obtain ⟨t, dp⟩ := x.keys e he
  rw [e1, e2] at t
  rw [e1] at dp
  exact ⟨Tp.nested ok _ _ _ t rfl, dp⟩
/-- .. and back -/
theorem dn_ok {P : Program} {w : World} {H' : Hp} {h' : Heap} {xs : List (NestedKey × Addr × Value)} (z : es.length ≤ sizeLine) (hd : (d == sysModules) = false) (rel : Paired EntR es xs) (dd : h'.DictOfH (nestedKind P w) d xs) : ObjOk P w H' h' d (DN P w d es) := by
  obtain ⟨o, arr, ep, h1, h2, h3, h4, _, h5⟩ := dd
  exact ⟨⟨z, hd, xs, rel, o, arr, ep, h1, h2, h3, h4, h5⟩, ⟨o, h1⟩, fun g1 g2 ⟨y1, y2, y3, y4, o', y5, y6, y7, y8⟩ k => ⟨y1, y2, y3, y4, o', y5, y6, k _ y7, y8⟩⟩
def storeE (es : List Ent) (k : NestedKey) (b : Addr) (v : V) : List Ent := if (valV (kvsOf es) k).isSome then es.map (fun e => if e.1 = k then (e.1, e.2.1, v) else e) else es ++ [(k, b, v)]
theorem storeE_kvs (es : List Ent) (k : NestedKey) (b : Addr) (v : V) : kvsOf (storeE es k b v) = putK (kvsOf es) k v := by
  unfold storeE putK
  rw [valV_any]
  split
  · unfold kvsOf
    rw [List.map_map, List.map_map]
    refine List.map_congr_left fun e _ => ?_
    by_cases h : e.1 = k <;> simp [h]
  · unfold kvsOf
    simp
theorem entR_repl (k : NestedKey) {v : V} {u : Value} (rv : RelV v u) : ∀ {es : List Ent} {xs : List (NestedKey × Addr × Value)}, Paired EntR es xs → Paired EntR (es.map fun e => if e.1 = k then (e.1, e.2.1, v) else e) (xs.map (putAt k u))
  | _, _, .nil => .nil
  | e :: es, x :: xs, .cons r t => by
    refine .cons ?_ (entR_repl k rv t)
    show EntR (if e.1 = k then (e.1, e.2.1, v) else e) (if x.1 = k then (x.1, x.2.1, u) else x)
    by_cases h : x.1 = k
    · rw [if_pos h, if_pos (r.1.trans h)]
      exact ⟨r.1, r.2.1, rv⟩
    · rw [if_neg h, if_neg (fun q => h (r.1.symm.trans q))]
      exact r
theorem storeE_rel {xs : List (NestedKey × Addr × Value)} (rel : Paired EntR es xs) (k : NestedKey) (b : Addr) {v : V} {u : Value} (rv : RelV v u) : Paired EntR (storeE es k b v) (storedH xs k b u) := by
  have ho := (entR_val k rel)
  have e1 : (valV (kvsOf es) k).isSome = (atKey xs k).isSome := by rw [ho.isSome_eq, Option.isSome_map]
  unfold storeE storedH
  rw [e1]
  split
  · exact entR_repl k rv rel
  · exact Paired.snoc rel ⟨rfl, rfl, rv⟩
theorem storeE_mem {k : NestedKey} {b : Addr} {v : V} {e : Ent} (h : e ∈ storeE es k b v) : (∃ e0 ∈ es, e0.1 = e.1 ∧ e0.2.1 = e.2.1) ∨ (e.1 = k ∧ e.2.1 = b) := by
  unfold storeE at h
  split at h
  · obtain ⟨e0, h0, rfl⟩ := List.mem_map.mp h
    by_cases q : e0.1 = k
    · rw [if_pos q]; exact .inl ⟨e0, h0, rfl, rfl⟩
    · rw [if_neg q]; exact .inl ⟨e0, h0, rfl, rfl⟩
  · rcases List.mem_append.mp h with h | h
    · exact .inl ⟨e, h, rfl, rfl⟩
    · obtain rfl := List.mem_singleton.mp h
      exact .inr ⟨rfl, rfl⟩
theorem storeE_len (es : List Ent) (k : NestedKey) (b : Addr) (v : V) : (storeE es k b v).length ≤ es.length + 1 := by
  unfold storeE
  split
  · rw [List.length_map]; omega
  · rw [List.length_append]; exact Nat.le_refl _
theorem kvs_len (es : List Ent) : (kvsOf es).length = es.length := List.length_map _
/-- behind a store -/
theorem DictE.put (x : DictE P w H d es) {k : NestedKey} {b : Addr} {v : V} (tk : Tp H (.ref b) k) (dk : k.depth ≤ 8) : DictE P w (upd H d (DN P w d (storeE es k b v))) d (storeE es k b v) := by
  have ts : TS H (upd H d (DN P w d (storeE es k b v))) := TS.mu x.mu
  refine ⟨upd_same, fun e he => ?_⟩
  rcases storeE_mem he with ⟨e0, h0, e1, e2⟩ | ⟨e1, e2⟩
  · obtain ⟨t, dd⟩ := x.keys e0 h0
    rw [← e1, ← e2]
    exact ⟨Tp.ts ts _ _ t, dd⟩
  · rw [e1, e2]
    exact ⟨Tp.ts ts _ _ tk, dk⟩
end
/-! ### the operations -/
section
variable {X : Cx} {pins : List (Addr × Obj)} {σ : L2.St} {H : Hp} {s : Shared} {d b : Addr} {es : List Ent} {k : NestedKey} {A : Around} {E : Value → Shared → Prop}
theorem n_is (I : Inv X pins σ H s) (tk : Tp H (.ref b) k) (dk : k.depth ≤ 8) : (nestedKind X.prog X.w).is s.heap k b := ⟨Tp.nested I.hok _ _ _ tk rfl, dk⟩
theorem n_type (I : Inv X pins σ H s) (x : DictE X.prog X.w H d es) : s.TypeIs (.ref d) "dict" := by
  obtain ⟨_, _, xs, _, dd⟩ := x.of I.hok
  exact dd.typeIs
theorem n_get2 {dv : V} {r : Value} {Q : Value → Shared → Prop} (hu : A.units + 1 + 8 < cLine) (I : Inv X pins σ H s) (x : DictE X.prog X.w H d es) (tk : Tp H (.ref b) k) (dk : k.depth ≤ 8) (rd : RelV dv r)
    (h : ∀ w' s', Inv X pins σ H s' → RelV ((valV (kvsOf es) k).getD dv) w' → Q w' s') : wpAny (model X.prog X.w) A (call (.builtin "dict.get") [.ref d, .ref b, r]) Q E s := by
  obtain ⟨z, hd, xs, rel, dd⟩ := x.of I.hok
  refine call_meetsIn PySem.F.slot_dict_get dd.typeIs PySem.F.entry_dict_get (PySem.F.args_dict_get_3 _ _ _) (meetsH_dict_get_default (nestedKind X.prog X.w) d b hd r) ⟨hu, k, xs, n_is I tk dk, dd, h _ _ (I.tok _) ?_⟩
  exact (entR_val k rel).getD rd
theorem n_getItem {v : V} {Q : Value → Shared → Prop} (hu : A.units + 1 + 8 < cLine) (I : Inv X pins σ H s) (x : DictE X.prog X.w H d es) (tk : Tp H (.ref b) k) (dk : k.depth ≤ 8) (hv : valV (kvsOf es) k = some v)
    (h : ∀ w' s', Inv X pins σ H s' → RelV v w' → Q w' s') : wpAny (model X.prog X.w) A (getItem (.ref d) (.ref b)) Q E s := by
  obtain ⟨z, hd, xs, rel, dd⟩ := x.of I.hok
  have ro := entR_val k rel
  rw [hv] at ro
  cases e : atKey xs k with
  | none =>
    rw [e] at ro
    exact ro.elim
  | some p =>
    rw [e] at ro
    exact wpAny_getItem_heap hu (n_is I tk dk) dd e (h _ _ (I.tok _) ro)
theorem n_setItem {v : V} {r : Value} {Q : Unit → Shared → Prop} (hu : A.units + 1 + 8 < cLine) (I : Inv X pins σ H s) (x : DictE X.prog X.w H d es) (tk : Tp H (.ref b) k) (dk : k.depth ≤ 8) (hl : es.length < sizeLine) (rv : RelV v r)
    (h : ∀ s', Inv X pins σ (upd H d (DN X.prog X.w d (storeE es k b v))) s' → Q () s') : wpAny (model X.prog X.w) A (setItem (.ref d) (.ref b) r) Q E s := by
  obtain ⟨z, hd, xs, rel, dd⟩ := x.of I.hok
  have hz : xs.length ≤ sizeLine := by rw [← Paired.length rel]; exact z
  have hl2 : (storeE es k b v).length ≤ sizeLine := by have := storeE_len es k b v; omega
  refine wpAny_setItem_heap (hsz := hz) hu (n_is I tk dk) dd fun h' dd' hs => h _ ?_
  have he : ∃ q, h'.get? d = some q := let ⟨q, _, _, hq, _⟩ := dd'; ⟨q, hq⟩
  exact d_write I (by rw [x.at_]; exact True.intro) hs he (dn_ok hl2 hd (storeE_rel rel k b rv) dd')
theorem n_setdefault {v : V} {r : Value} {Q : Value → Shared → Prop} (hu : A.units + 1 + 8 < cLine) (I : Inv X pins σ H s) (x : DictE X.prog X.w H d es) (tk : Tp H (.ref b) k) (dk : k.depth ≤ 8) (hl : es.length < sizeLine) (rv : RelV v r)
    (h1 : ∀ y w' s', valV (kvsOf es) k = some y → Inv X pins σ H s' → RelV y w' → Q w' s')
    (h2 : ∀ w' s', valV (kvsOf es) k = none → Inv X pins σ (upd H d (DN X.prog X.w d (storeE es k b v))) s' → RelV v w' → Q w' s') : wpAny (model X.prog X.w) A (call (.builtin "dict.setdefault") [.ref d, .ref b, r]) Q E s := by
  obtain ⟨z, hd, xs, rel, dd⟩ := x.of I.hok
  have hz : xs.length ≤ sizeLine := by rw [← Paired.length rel]; exact z
  have hl2 : (storeE es k b v).length ≤ sizeLine := by have := storeE_len es k b v; omega
  have ro := entR_val k rel
  refine call_setdefault_heap (hsz := hz) hu (n_is I tk dk) hd dd (fun p hp => ?_) fun hn h' dd' hs => ?_
  · rw [hp] at ro
    cases e : valV (kvsOf es) k with
    | none => rw [e] at ro; exact ro.elim
    | some y =>
      rw [e] at ro
      exact h1 y _ _ e (I.tok _) ro
  · rw [hn] at ro
    cases e : valV (kvsOf es) k with
    | some y => rw [e] at ro; exact ro.elim
    | none =>
      have he : ∃ q, h'.get? d = some q := let ⟨q, _, _, hq, _⟩ := dd'; ⟨q, hq⟩
      exact h2 _ _ e (d_write I (by rw [x.at_]; exact True.intro) hs he (dn_ok hl2 hd (storeE_rel rel k b rv) dd')) rv
end
end K67
end
/-! ## K67Dict2 -/
section
set_option maxHeartbeats 4000000
/-! K67Dict2: the layer's rules over such dicts; plain tuples (known to the object), dict(pairs) -/
namespace K67
open PySem PySem.Spec PyProof.Rows L2 LamX
/-! ### {} -/
def tNNew (P : Program) (w : World) : TE := fun _ H Q => ∀ p, H p = none → Q (.ref p) (upd H p (DN P w p []))
theorem dn_new {P : Program} {w : World} {H : Hp} {p : Addr} : DictE P w (upd H p (DN P w p [])) p [] := ⟨upd_same, fun e he => by cases he⟩
theorem dn_empty {P : Program} {w : World} {H : Hp} (h : Heap) (hb : sysModules < h.objs.size) : ObjOk P w H (h.push { cls := .type "dict", data := .dict #[] }) h.objs.size (DN P w h.objs.size []) :=
  dn_ok (xs := []) (Nat.zero_le _) (beq_eq_false_iff_ne.mpr (Ne.symm (Nat.ne_of_lt hb))) .nil ⟨_, #[], 0, Heap.get?_push_size _ rfl, ⟨rfl, rfl, rfl⟩, rfl, rfl, fun _ hx => (by cases hx), List.nodup_nil⟩
/-! ### d.get(k, x), d[k], d[k] = v, d.setdefault(k, x) -/
def tNGet2 (P : Program) (w : World) (td ty tx : TE) : TE := fun σ H Q => td σ H fun x H1 => ∃ d, x = .ref d ∧ (∃ es, DictE P w H1 d es) ∧ ty σ H1 fun y H2 => tx σ H2 fun z H3 => ∃ es b k, DictE P w H3 d es ∧ y = .ref b ∧ Tp H3 (.ref b) k ∧ k.depth ≤ 8 ∧ Q ((valV (kvsOf es) k).getD z) H3
def tNSetd (P : Program) (w : World) (td ty tx : TE) : TE := fun σ H Q => td σ H fun x H1 => ∃ d, x = .ref d ∧ (∃ es, DictE P w H1 d es) ∧ ty σ H1 fun y H2 => tx σ H2 fun z H3 => ∃ es b k, DictE P w H3 d es ∧ y = .ref b ∧ Tp H3 (.ref b) k ∧ k.depth ≤ 8 ∧ es.length < sizeLine ∧
  (∀ v, valV (kvsOf es) k = some v → Q v H3) ∧ (valV (kvsOf es) k = none → Q z (upd H3 d (DN P w d (storeE es k b z))))
def tNGet (P : Program) (w : World) (td ty : TE) : TE := fun σ H Q => td σ H fun x H1 => ty σ H1 fun y H2 => ∃ d b es k v, x = .ref d ∧ y = .ref b ∧ DictE P w H2 d es ∧ Tp H2 (.ref b) k ∧ k.depth ≤ 8 ∧ valV (kvsOf es) k = some v ∧ Q v H2
def sNPut (P : Program) (w : World) (td ty tv : TE) : L2.TS := fun D σ H => tv σ H fun v H1 => td σ H1 fun x H2 => ty σ H2 fun y H3 => ∃ d b es k, x = .ref d ∧ y = .ref b ∧ DictE P w H3 d es ∧ Tp H3 (.ref b) k ∧ k.depth ≤ 8 ∧ es.length < sizeLine ∧ D.nx σ (upd H3 d (DN P w d (storeE es k b v)))
section
variable {X : Cx} {P : Program} {w : World} {o i e f value : Expr} {pos pos' apos cpos : Pos} {td ty tx tv : TE}
theorem pe_nnew (hP : X.prog = P) (hw : X.w = w) : PE X (.Dict [] [] pos) (tNNew P w) := by
  subst hP hw
  exact ⟨fun pins s σ H Q I h => wpAny_Dict_empty ⟨.ref s.heap.objs.size, _, I.laid (a := s.heap.objs.size) (o := DN X.prog X.w s.heap.objs.size []) (t' := s.toks) (fun _ _ q => Heap.get?_push_of_some _ q) (Nat.le_refl _) (dn_empty s.heap I.big), rfl, h _ (I.hok.fresh (Nat.le_refl _))⟩⟩
theorem pe_nget2 (hP : X.prog = P) (hw : X.w = w) (hu : X.A.units + 1 + 8 < cLine) (ho : PE X o td) (he : PE X e ty) (hf : PE X f tx) (m : M2 X o "get" apos e f cpos) : PE X (.Call (.Attribute o "get" apos) [e, f] [] cpos) (tNGet2 P w td ty tx) := by
  subst hP hw
  refine ⟨fun pins s σ H Q I h => ?_⟩
  refine wpAny_Call_method m.base m.few m.line PySem.F.plainAttrs_dict PySem.F.slot_dict_get PySem.F.type_dict_get (thn (ho.run pins s σ H _ I h) fun u s1 ⟨x, H1, I1, rx, d, ex, ⟨es0, hd⟩, q1⟩ => ?_)
  subst ex
  obtain rfl : u = Value.ref d := rx
  obtain ⟨_, _, xs, _, dd⟩ := hd.of I1.hok
  have nd : ∀ a, Value.ref d = Value.ref a → ∃ ob, s1.heap.get? a = some ob ∧ ob.dict = Option.none := fun a ea => by
    cases ea
    obtain ⟨ob, _, _, h1, h2, _⟩ := dd
    exact ⟨ob, h1, h2.2.1⟩
  refine ⟨dd.typeIs, nd, ?_⟩
  rw [m.trees]
  refine Calls.callWith_builtin rfl (Calls.evalArgs_plain (Calls.spliced_cons (thn (he.run pins s1 σ H1 _ I1 q1) fun iv s2 ⟨y, H2, I2, ry, q2⟩ =>
    Calls.spliced_cons (thn (hf.run pins s2 σ H2 _ I2 q2) fun fv s3 ⟨z, H3, I3, rz, es, b, k, hd3, ey, tk, dk, q3⟩ => Calls.spliced_nil ?_))))
  subst ey
  obtain rfl : iv = Value.ref b := ry
  exact n_get2 hu I3 hd3 tk dk rz fun w' s4 I4 rw' => ⟨_, H3, I4, rw', q3⟩
theorem pe_nsetd (hP : X.prog = P) (hw : X.w = w) (hu : X.A.units + 1 + 8 < cLine) (ho : PE X o td) (he : PE X e ty) (hf : PE X f tx) (m : M2 X o "setdefault" apos e f cpos) : PE X (.Call (.Attribute o "setdefault" apos) [e, f] [] cpos) (tNSetd P w td ty tx) := by
  subst hP hw
  refine ⟨fun pins s σ H Q I h => ?_⟩
  refine wpAny_Call_method m.base m.few m.line PySem.F.plainAttrs_dict PySem.F.slot_dict_setdefault PySem.F.type_dict_setdefault (thn (ho.run pins s σ H _ I h) fun u s1 ⟨x, H1, I1, rx, d, ex, ⟨es0, hd⟩, q1⟩ => ?_)
  subst ex
  obtain rfl : u = Value.ref d := rx
  obtain ⟨_, _, xs, _, dd⟩ := hd.of I1.hok
  have nd : ∀ a, Value.ref d = Value.ref a → ∃ ob, s1.heap.get? a = some ob ∧ ob.dict = Option.none := fun a ea => by
    cases ea
    obtain ⟨ob, _, _, h1, h2, _⟩ := dd
    exact ⟨ob, h1, h2.2.1⟩
  refine ⟨dd.typeIs, nd, ?_⟩
  rw [m.trees]
  refine Calls.callWith_builtin rfl (Calls.evalArgs_plain (Calls.spliced_cons (thn (he.run pins s1 σ H1 _ I1 q1) fun iv s2 ⟨y, H2, I2, ry, q2⟩ =>
    Calls.spliced_cons (thn (hf.run pins s2 σ H2 _ I2 q2) fun fv s3 ⟨z, H3, I3, rz, es, b, k, hd3, ey, tk, dk, hl, q3, q4⟩ => Calls.spliced_nil ?_))))
  subst ey
  obtain rfl : iv = Value.ref b := ry
  exact n_setdefault hu I3 hd3 tk dk hl rz (fun y w' s4 hv I4 rw' => ⟨y, H3, I4, rw', q3 y hv⟩) fun w' s4 hv I4 rw' => ⟨z, _, I4, rw', q4 hv⟩
theorem pe_nget (hP : X.prog = P) (hw : X.w = w) (hu : X.A.units + 1 + 8 < cLine) (ho : PE X o td) (hi : PE X i ty) (hs : NoSl i) : PE X (.Subscript o i pos) (tNGet P w td ty) := by
  subst hP hw
  refine ⟨fun pins s σ H Q I h => ?_⟩
  refine subD_of PySem.F.slot_dict_getitem.lookup hs (thn (ho.run pins s σ H _ I h) fun u s1 ⟨x, H1, I1, rx, q1⟩ => thn (hi.run pins s1 σ H1 _ I1 q1) fun iv s2 ⟨y, H2, I2, ry, d, b, es, k, v, ex, ey, hd, tk, dk, hv, q2⟩ => ?_)
  subst ex ey
  obtain rfl : u = Value.ref d := rx
  obtain rfl : iv = Value.ref b := ry
  exact ⟨n_type I2 hd, n_getItem hu I2 hd tk dk hv fun w' s3 I3 rw' => ⟨v, H2, I3, rw', q2⟩⟩
theorem ps_nput (hP : X.prog = P) (hw : X.w = w) (hu : X.A.units + 1 + 8 < cLine) (ho : PE X o td) (hi : PE X i ty) (hv : PE X value tv) (hs : swapsWith value (some (.Subscript o i pos')) pos.line X.env = pure false) :
    PS X (.Assign [.Subscript o i pos'] value pos) (sNPut P w td ty tv) := by
  subst hP hw
  refine ⟨fun pins s σ H D I h => ?_⟩
  refine wpAny_Assign_Subscript (thn (hv.run pins s σ H _ I h) fun r s1 ⟨v, H1, I1, rv, q1⟩ => thn (ho.run pins s1 σ H1 _ I1 q1) fun u s2 ⟨x, H2, I2, rx, q2⟩ => thn (hi.run pins s2 σ H2 _ I2 q2) fun iv s3 ⟨y, H3, I3, ry, d, b, es, k, ex, ey, hd, tk, dk, hl, q3⟩ => ?_) hs
  subst ex ey
  obtain rfl : u = Value.ref d := rx
  obtain rfl : iv = Value.ref b := ry
  exact n_setItem hu I3 hd tk dk hl rv fun s4 I4 => ⟨σ, _, I4, q3⟩
end
/-! ### plain tuples: known to the object -/
def PTs (H : Hp) (x : V) (ds : List NestedKey) : Prop := ∃ a o vs, x = .ref a ∧ H a = some (.frz o (.tup vs)) ∧ o.dict = Option.none ∧ Tps H vs ds
theorem PTs.tp {H : Hp} {x : V} {ds : List NestedKey} (h : PTs H x ds) : Tp H x (.tup ds) := let ⟨a, o, vs, e, h1, _, h2⟩ := h; by rw [e]; exact .tup (.inr ⟨o, h1⟩) h2
theorem PTs.sm {T : List (Addr × Str)} {H H' : Hp} (e : Sm T H H') {x : V} {ds : List NestedKey} (h : PTs H x ds) : PTs H' x ds := let ⟨a, o, vs, ex, h1, h2, h3⟩ := h; ⟨a, o, vs, ex, e.frz h1, h2, Tps.ts e.ts _ _ h3⟩
theorem PTs.xb {D : Addr} {H H' : Hp} (e : XBut D H H') (hm : Mu (H D)) {x : V} {ds : List NestedKey} (h : PTs H x ds) : PTs H' x ds := let ⟨a, o, vs, ex, h1, h2, h3⟩ := h
  ⟨a, o, vs, ex, e.2 a _ (fun z => by rw [z] at h1; exact hm.2.2.2 _ _ h1) h1 (fun _ z => by cases z), h2, Tps.ts e.1 _ _ h3⟩
def tTupF (t : TA) : TE := fun σ H Q => t σ H fun xs H1 => xs.length ≤ sizeLine ∧ ∀ p o, H1 p = none → o.dict = Option.none → Q (.ref p) (upd H1 p (.frz o (.tup xs)))
def rTupF (K : PySem.W.Frag) : List V → Hp → VK → Prop := fun xs H Q => ∃ p ys, xs = [.ref p] ∧ SqL K H p ys ∧ ∀ l o, H l = none → o.dict = Option.none → Q (.ref l) (upd H l (.frz o (.tup ys)))
def rSlF (K : PySem.W.Frag) : V → Option Int → Option Int → Hp → VK → Prop := fun x lo hi H Q => ∃ a xs, x = .ref a ∧ SqT K H a xs ∧
  ¬ (HT.sIx xs.length 0 lo = 0 ∧ HT.sIx xs.length xs.length hi = xs.length) ∧ ∀ p o, H p = none → o.dict = Option.none → Q (.ref p) (upd H p (.frz o (.tup (cutV xs lo hi))))
section
variable {X : Cx} {K : PySem.W.Frag} {es : List Expr} {t : TA} {pos : Pos}
theorem pe_tupF {x1} (h : PA X es t) : PE X (.Tuple es x1 pos) (tTupF t) := by
  refine ⟨fun pins s σ H Q I hq => ?_⟩
  refine wpAny_Tuple_spliced (thn (h.run pos pins s σ H _ I hq) fun us s1 ⟨xs, H1, I1, r, z, q⟩ => ⟨by rw [← r.length]; exact z, ?_⟩)
  have hf : H1 s1.heap.objs.size = none := I1.hok.fresh (Nat.le_refl _)
  refine ⟨.ref s1.heap.objs.size, upd H1 s1.heap.objs.size (.frz { cls := .type "tuple", data := .seq us.toArray } (.tup xs)), I1.laid (t' := s1.toks) (fun b u e => Heap.get?_push_of_some _ e) (Nat.le_refl _) ?_, rfl, q _ _ hf rfl⟩
  exact ⟨Heap.get?_push_size _ rfl, z, us, r, ⟨_, Heap.get?_push_size _ rfl, rfl, _, rfl⟩⟩
theorem tupOfF (hK : X.K = K) : CallR X (.type "tuple") (rTupF K) := by
  subst hK
  intro pins s σ H xs us Q I r h
  obtain ⟨p, ys, rfl, hq, q⟩ := h
  obtain ⟨u, rfl, rx⟩ := vals1 r
  cases rx
  obtain ⟨its, r', pl, hz⟩ := I.list hq
  have hlen := r'.length
  refine call_tuple_list pl.isList (fun h' kp => ?_) (by simp only [List.size_toArray] <;> omega)
  have I1 : Inv X pins σ H { s with heap := h' } := I.kept (t' := s.toks) kp
  have I2 : Inv X pins σ (upd H h'.objs.size (.frz { cls := .type "tuple", data := .seq its.toArray } (.tup ys))) { s with heap := h'.push { cls := .type "tuple", data := .seq its.toArray } } :=
    I1.laid (t' := s.toks) (fun b o e => Heap.get?_push_of_some _ e) (Nat.le_refl _) ⟨Heap.get?_push_size _ rfl, hz, its, r', IsTup.new _ _⟩
  exact ⟨.ref h'.objs.size, _, I2, rfl, q _ _ (I1.hok.fresh (Nat.le_refl _)) rfl⟩
theorem sl_tupF (hK : X.K = K) : SlR X (rSlF K) := by
  subst hK
  intro pins s σ H x v vl vu lo hi sl Q I rx hs pl pu h
  obtain ⟨a, xs, rfl, hx, hw, q⟩ := h
  cases rx
  obtain ⟨its, r, ht, hz⟩ := I.tuple hx
  have hlen : its.toArray.size = xs.length := by rw [List.size_toArray]; exact r.length.symm
  refine ⟨"tuple", _, PyProof.Rows.slot_tuple_getitem.lookup, ht.typeIs, ?_⟩
  refine HT.getItem_tuple_cut ht hs pl pu (by rw [hlen]; exact hw) ?_ (by rw [hlen]; exact hz)
  rw [hlen]
  refine ⟨.ref s.heap.objs.size, _, I.laid (o := .frz { cls := .type "tuple", data := .seq ((its.drop (HT.sIx xs.length 0 lo)).take (HT.sIx xs.length xs.length hi - HT.sIx xs.length 0 lo)).toArray } (.tup (cutV xs lo hi))) (t' := s.toks) (fun b ob q => Heap.get?_push_of_some _ q) (Nat.le_refl _) ?_, rfl, q _ _ (I.hok.fresh (Nat.le_refl _)) rfl⟩
  exact ⟨Heap.get?_push_size _ rfl, Nat.le_trans (cutV_length xs lo hi) hz, _, (r.drop (HT.sIx xs.length 0 lo)).take (HT.sIx xs.length xs.length hi - HT.sIx xs.length 0 lo), IsTup.new _ _⟩
end
section
variable {T : List (Addr × Str)} {K : PySem.W.Frag} {H : Hp} {Q : VK} {ds : List NestedKey}
theorem tupF_d {xs : List V} (h : Tps H xs ds) (k : ∀ v H', Sm T H H' → PTs H' v ds → Q v H') : ∀ p o, H p = none → o.dict = Option.none → Q (.ref p) (upd H p (.frz o (.tup xs))) :=
  fun p o hp ho => k _ _ (Sm.new hp) ⟨p, o, xs, rfl, upd_same, ho, Tps.ts (Sm.new (T := T) hp).ts _ _ h⟩
theorem tupleF_d {a : Addr} {xs : List V} (h1 : H a = some (.lst xs)) (h2 : Tps H xs ds) (k : ∀ v H', Sm T H H' → PTs H' v ds → Q v H') : rTupF K [V.ref a] H Q :=
  ⟨a, xs, rfl, .inl (.inl h1), tupF_d (T := T) h2 k⟩
end
/-! ### dict(pairs), the pairs a plain tuple of pairs with data for keys -/
/-- the values are pairs of a key's own tuple and a value -/
def PairsN (H : Hp) : List V → List Ent → Prop := Paired fun v p => ∃ t, v = .ref t ∧ Rd H t (.tup [.ref p.2.1, p.2.2]) ∧ Tp H (.ref p.2.1) p.1 ∧ p.1.depth ≤ 8
def storeAll (es ps : List Ent) : List Ent := ps.foldl (fun acc p => storeE acc p.1 p.2.1 p.2.2) es
def rDictN (P : Program) (w : World) : List V → Hp → VK → Prop := fun xs H Q => ∃ a o vs ps, xs = [.ref a] ∧ H a = some (.frz o (.tup vs)) ∧ o.dict = Option.none ∧ PairsN H vs ps ∧ ps.length ≤ 100000 ∧ ∀ d, H d = none → Q (.ref d) (upd H d (DN P w d (storeAll [] ps)))
theorem storeAll_rel : ∀ {ps : List Ent} {zs : List (NestedKey × Addr × Value)} {es : List Ent} {xs : List (NestedKey × Addr × Value)}, Paired EntR ps zs → Paired EntR es xs → Paired EntR (storeAll es ps) (storedAllH xs zs)
  | _, _, _, _, .nil, r => r
  | p :: ps, z :: zs, es, xs, .cons q t, r => by
    show Paired EntR (storeAll (storeE es p.1 p.2.1 p.2.2) ps) (storedAllH (storedH xs z.1 z.2.1 z.2.2) zs)
    refine storeAll_rel t ?_
    rw [q.1, q.2.1]
    exact storeE_rel r _ _ q.2.2
theorem storeAll_len : ∀ (ps es : List Ent), (storeAll es ps).length ≤ es.length + ps.length
  | [], es => Nat.le_refl _
  | p :: ps, es => by
    have h := storeAll_len ps (storeE es p.1 p.2.1 p.2.2)
    have h2 := storeE_len es p.1 p.2.1 p.2.2
    show (storeAll (storeE es p.1 p.2.1 p.2.2) ps).length ≤ _
    rw [List.length_cons]
    omega
theorem storeAll_keys (C : NestedKey → Addr → Prop) : ∀ (ps es : List Ent), (∀ p ∈ ps, C p.1 p.2.1) → (∀ e ∈ es, C e.1 e.2.1) → ∀ e ∈ storeAll es ps, C e.1 e.2.1
  | [], es, _, h => h
  | p :: ps, es, hp, h => by
    refine storeAll_keys C ps _ (fun q hq => hp q (List.mem_cons_of_mem _ hq)) fun e he => ?_
    rcases storeE_mem he with ⟨e0, h0, e1, e2⟩ | ⟨e1, e2⟩
    · rw [← e1, ← e2]; exact h e0 h0
    · rw [e1, e2]; exact hp p List.mem_cons_self
theorem storeAll_kvs : ∀ (ps es : List Ent), kvsOf (storeAll es ps) = (kvsOf ps).foldl (fun acc p => putK acc p.1 p.2) (kvsOf es)
  | [], _ => rfl
  | p :: ps, es => by
    show kvsOf (storeAll (storeE es p.1 p.2.1 p.2.2) ps) = _
    rw [storeAll_kvs ps, storeE_kvs]
    rfl
/-- all that stood at h stands at h' -/
theorem nested_keep {h h' : Heap} (k : ∀ b o, b ≠ h.objs.size → h.get? b = some o → h'.get? b = some o) {d : NestedKey} {v : Value} (x : NestedIs h d v) : NestedIs h' d v :=
  NestedIs.at (fun a o vs n ho _ => k a o (Nat.ne_of_lt (Heap.lt_size ho)) ho) _ _ x
section
variable {X : Cx} {P : Program} {w : World}
theorem pairs_vals {h : Heap} {H : Hp} (ok : HOk P w H h) : ∀ {vs : List V} {ps : List Ent} {us : List Value}, PairsN H vs ps → Vals vs us → ∃ xs : List (NestedKey × Addr × Value), Paired EntR ps xs ∧ Paired (fun u x => ∃ t, u = Value.ref t ∧ h.IsTuple t #[.ref x.2.1, x.2.2] ∧ (nestedKind P w).is h x.1 x.2.1) us xs
  | _, _, _, .nil, .nil => ⟨[], .nil, .nil⟩
  | _, p :: _, _, .cons ⟨t, e, h1, h2, h3⟩ q, .cons r rs => by
    obtain ⟨xs, a1, a2⟩ := pairs_vals ok q rs
    subst e
    cases r
    obtain ⟨_, its, rv, o, ho, hc, n, hd⟩ := h1.ok ok
    cases rv with
    | cons r1 rr =>
      cases r1
      cases rr with
      | cons r2 rr =>
        cases rr
        exact ⟨(p.1, p.2.1, _) :: xs, .cons ⟨rfl, rfl, r2⟩ a1, .cons ⟨t, rfl, ⟨o, ho, hc, n, hd⟩, Tp.nested ok _ _ _ h2 rfl, h3⟩ a2⟩
theorem paired_ix {α β : Type} {R : α → β → Prop} : ∀ {xs : List α} {ys : List β} {i : Nat} {y : β}, Paired R xs ys → ys[i]? = some y → ∃ x, xs[i]? = some x ∧ R x y
  | _, _, _, _, .nil, e => by simp at e
  | _, _, 0, _, .cons r _, e => by simp at e; subst e; exact ⟨_, rfl, r⟩
  | _, _, i + 1, v, .cons _ t, e => by
    obtain ⟨u, h1, h2⟩ := paired_ix (i := i) (y := v) t (by simpa using e)
    exact ⟨u, by simpa using h1, h2⟩
theorem call_dictN (hP : X.prog = P) (hw : X.w = w) (hc : X.calm = true) (hu : X.A.units + 16 < cLine) : CallR X (.type "dict") (rDictN P w) := by
  subst hP hw
  intro pins s σ H xs us Q I r h
  obtain ⟨a, o, vs, ps, rfl, ha, hdn, hps, hl, q⟩ := h
  obtain ⟨u, rfl, rx⟩ := vals1 r
  cases rx
  obtain ⟨ho, _, its, rv, o', ho', hcl, n, hdat⟩ := I.hok a _ ha
  rw [ho] at ho'
  cases ho'
  obtain ⟨zs, e1, e2⟩ := pairs_vals I.hok hps rv
  have l1 : its.length = zs.length := Paired.length e2
  have l2 : ps.length = zs.length := Paired.length e1
  let Ts : Nat → Addr := fun j => match its[j]? with
    | some (.ref t) => t
    | _ => 0
  have hz : zs.length ≤ sizeLine := sz_le' (by omega)
  refine call_dict_pairsH (knd := nestedKind X.prog X.w) (ps := zs) (PairArg.tuple a its.toArray Ts (zs.map fun x => (Value.ref x.2.1, x.2.2))) (I.ok.hd hc) (by show X.A.units + 1 + 1 + 8 < cLine; omega)
    ⟨⟨o, n, ho, hcl, hdn, hdat⟩, by simp [l1], fun j k v hj => ?_⟩ ⟨by rw [List.length_map], fun i key v hi => ?_⟩ (fun h' hk x hx => ?_) (by rw [List.length_map]; exact hz) fun h' tk hd hk => ?_
  · rw [List.getElem?_map] at hj
    obtain ⟨x, hx, e⟩ := Option.map_eq_some_iff.mp hj
    cases e
    obtain ⟨u, hu, t, rfl, ht, _⟩ := paired_ix e2 hx
    have eT : Ts j = t := by show (match its[j]? with | some (.ref t) => t | _ => 0) = t; rw [hu]
    rw [eT]
    exact ⟨by simpa using hu, .inl ht⟩
  · have hi : (zs.map fun x => (Value.ref x.2.1, x.2.2))[i]? = some (key, v) := hi
    rw [List.getElem?_map] at hi
    obtain ⟨x, hx, e⟩ := Option.map_eq_some_iff.mp hi
    cases e
    exact ⟨x.1, x.2.1, hx, rfl⟩
  · obtain ⟨i, hi⟩ := List.mem_iff_getElem?.mp hx
    obtain ⟨u, _, t, _, _, y1, y2⟩ := paired_ix e2 hi
    exact ⟨nested_keep (fun b o hb e => hk b o hb (by simp) e) y1, y2⟩
  · have hf : H s.heap.objs.size = none := I.hok.fresh (Nat.le_refl _)
    refine ⟨.ref s.heap.objs.size, upd H s.heap.objs.size (DN X.prog X.w s.heap.objs.size (storeAll [] ps)), I.laid (t' := tk) (fun b o e => hk b o (by simp) e) (Nat.le_refl _) ?_, rfl, q _ hf⟩
    exact dn_ok (sz_le' (by have := storeAll_len ps []; simp at this; omega)) (beq_eq_false_iff_ne.mpr (Ne.symm (Nat.ne_of_lt I.big))) (storeAll_rel e1 .nil) hd
end
theorem dictN_e {P : Program} {w : World} {H : Hp} {d : Addr} {ps : List Ent} {vs : List V} (hd : H d = none) (hps : PairsN H vs ps) : DictE P w (upd H d (DN P w d (storeAll [] ps))) d (storeAll [] ps) := by
  refine ⟨upd_same, ?_⟩
  refine storeAll_keys (fun k b => Tp (upd H d (DN P w d (storeAll [] ps))) (.ref b) k ∧ k.depth ≤ 8) ps [] (fun p hp => ?_) (fun e he => by cases he)
  have key : ∀ {vs : List V} {ps : List Ent}, PairsN H vs ps → p ∈ ps → Tp H (.ref p.2.1) p.1 ∧ p.1.depth ≤ 8 := by
    intro vs ps x
    induction x with
    | nil => intro h; cases h
    | cons r t ih =>
      intro h
      rcases List.mem_cons.mp h with rfl | h
      · obtain ⟨_, _, _, h1, h2⟩ := r
        exact ⟨h1, h2⟩
      · exact ih h
  obtain ⟨t, dp⟩ := key hps hp
  exact ⟨Tp.ts (Sm.new (T := []) hd).ts _ _ t, dp⟩
end K67
end
/-! ## K67Sort -/
section
set_option maxHeartbeats 4000000
/-! K67Sort: sorted(xs, key=f), f a def or a lambda that gives data -/
namespace K67
open PySem PySem.Spec PyProof.Rows L2 LamX PySem.W
/-! ### pins -/
section
variable {X : Cx} {pins : List (Addr × Obj)} {σ : L2.St} {H H' : Hp} {s : Shared} {b : Addr} {ob : Obj}
theorem inv_unpin {pins' : List (Addr × Obj)} (I : Inv X pins' σ H s) (h : ∀ p ∈ pins, p ∈ pins') : Inv X pins σ H s :=
  { I with pin := fun p hp => I.pin p (by
      rcases List.mem_append.mp hp with q | q
      · exact List.mem_append.mpr (.inl q)
      · exact List.mem_append.mpr (.inr (h p q))) }
theorem inv_pin (I : Inv X pins σ H s) (hb : s.heap.get? b = some ob) (f : FpOk X pins H b) (hc : ∀ v, ob.data ≠ .cell v) : Inv X ((b, ob) :: pins) σ H s := by
  have h : ∀ p ∈ X.pn ++ ((b, ob) :: pins), s.heap.get? p.1 = some p.2 ∧ H p.1 = none ∧ p.1 ≠ X.env.locals ∧ p.1 ∉ X.fs ∧ ∀ v, p.2.data ≠ .cell v := by
    intro p hp
    rcases List.mem_append.mp hp with q | q
    · exact I.pin p (List.mem_append.mpr (.inl q))
    · rcases List.mem_cons.mp q with rfl | q
      · exact ⟨hb, f.1, f.2.1, f.2.2.1, hc⟩
      · exact I.pin p (List.mem_append.mpr (.inr q))
  exact { I with pin := h }
theorem fp_mono {pins' : List (Addr × Obj)} (f : FpOk X pins' H b) (h : ∀ p ∈ pins, p ∈ pins') : FpOk X pins H b :=
  ⟨f.1, f.2.1, f.2.2.1, f.2.2.2.1, f.2.2.2.2.1, fun p hp => f.2.2.2.2.2 p (by
    rcases List.mem_append.mp hp with q | q
    · exact List.mem_append.mpr (.inl q)
    · exact List.mem_append.mpr (.inr (h p q)))⟩
theorem fp_heap (f : FpOk X pins H b) (h : H' b = none) : FpOk X pins H' b := ⟨h, f.2⟩
end
/-! ### data read without lists -/
mutual
theorem Tp.reads {P : Program} {w : World} {H : Hp} {h : Heap} (ok : HOk P w H h) : ∀ (d : NestedKey) (v : V) (u : Value), Tp H v d → RelV v u → Reads h u d.data []
  | .none, _, _, t, r => by cases t; cases r; exact Reads.none
  | .num i, _, _, t, r => by cases t; obtain ⟨k, rfl⟩ := r; exact Reads.int i k
  | .text x, _, _, t, r => by cases t; obtain ⟨k, rfl⟩ := r; exact Reads.str x k
  | .tup ds, _, _, t, r => by
    cases t with
    | tup h1 h2 =>
      cases r
      obtain ⟨_, its, rv, o, ho, hc, n, hd⟩ := h1.ok ok
      exact Reads.tuple ho hc hd (Tps.reads ok ds _ its h2 rv)
theorem Tps.reads {P : Program} {w : World} {H : Hp} {h : Heap} (ok : HOk P w H h) : ∀ (ds : List NestedKey) (vs : List V) (us : List Value), Tps H vs ds → Vals vs us → ReadsAll h us (NestedKey.datas ds) []
  | [], _, _, t, r => by cases t; cases r; exact ReadsAll.nil
  | d :: ds, _, _, t, r => by
    cases t with
    | cons h1 h2 =>
      cases r with
      | cons r1 r2 => exact ReadsAll.cons (as := []) (bs := []) (Tp.reads ok d _ _ h1 r1) (Tps.reads ok ds _ _ h2 r2)
end
/-! ### the loop over the keys, the sort -/
/-- f is called with a thing and gives data: its key -/
def KeyFn (X : Cx) (T : List (Addr × Str)) (need : List (Addr × Obj)) (f : Value) (σ : L2.St) {α : Type} (IR : Hp → V → α → Prop) (en : α → NestedKey) : Prop :=
  ∀ (pins : List (Addr × Obj)) (H : Hp) (s : Shared) (x : V) (u : Value) (a : α), (∀ p ∈ need, p ∈ pins) → Inv X pins σ H s → RelV x u → IR H x a →
    wpAny (model X.prog X.w) X.A.in1.in1 (call f [u]) (EP X pins σ fun y H' => Sm T H H' ∧ Tp H' y (en a)) (fun _ _ => False) s
section
variable {X : Cx} {T : List (Addr × Str)} {pins : List (Addr × Obj)} {σ : L2.St} {H : Hp} {s : Shared} {α : Type} {IR : Hp → V → α → Prop} {en : α → NestedKey} {P : PySem.Fin → Shared → Prop} {E : Value → Shared → Prop}
theorem each_of {h : Heap} : ∀ {vs : List Value} {ds : List NestedKey} {ys : List V} {H : Hp}, HOk X.prog X.w H h → Vals ys vs → Tps H ys ds → EachIs (fun v d => ∃ as, Reads h v d as) vs (NestedKey.datas ds)
  | _, _, _, _, _, .nil, .nil => .nil
  | _, _, _, _, ok, .cons r rs, .cons t ts => .cons ⟨[], Tp.reads ok _ _ _ t r⟩ (each_of ok rs ts)
theorem datas_map (as : List α) : NestedKey.datas (as.map en) = as.map fun a => (en a).data := by
  induction as with
  | nil => rfl
  | cons a r ih =>
    show (en a).data :: NestedKey.datas (r.map en) = _
    rw [ih]
    rfl
theorem each_vals : ∀ {out : List Value} {bs : List α}, EachIs (fun v b => ∃ x, RelV x v ∧ IR H x b) out bs → ∃ ys, Vals ys out ∧ Paired (IR H) ys bs
  | _, _, .nil => ⟨[], .nil, .nil⟩
  | _, _, .cons ⟨x, r, q⟩ t => by
    obtain ⟨ys, h1, h2⟩ := each_vals t
    exact ⟨x :: ys, .cons r h1, .cons q h2⟩
theorem vals_each : ∀ {xs : List V} {vs : List Value} {bs : List α}, Vals xs vs → Paired (IR H) xs bs → EachIs (fun v b => ∃ x, RelV x v ∧ IR H x b) vs bs
  | _, _, _, .nil, .nil => .nil
  | _, _, _, .cons r rs, .cons q t => .cons ⟨_, r, q⟩ (vals_each rs t)
/-- the key store and the list have changed: both were untracked; the list is tracked from now on -/
theorem inv_two {k a : Addr} {h' : Heap} {t' : Nat} {o : HO} (I : Inv X pins σ H s) (fk : FpOk X pins H k) (fa : FpOk X pins H a) (keep : ∀ b u, b ≠ k → b ≠ a → s.heap.get? b = some u → h'.get? b = some u)
    (new : ObjOk X.prog X.w (upd H a o) h' a o) : Inv X pins σ (upd H a o) { s with heap := h', toks := t' } := by
  have na : ∀ b u, H b = some u → b ≠ a := fun b u e z => by rw [z, fa.1] at e; cases e
  have nk : ∀ b u, H b = some u → b ≠ k := fun b u e z => by rw [z, fk.1] at e; cases e
  refine I.step (g' := s.gens) (d' := s.drawn) (ch := [k, a]) (fun b hb => ?_) (fun b u _ _ hc e _ => ?_) (fun b u _ _ hc e _ => ?_) (fun b u hc _ n => ?_) (fun b u hc e => ?_) (fun b xs e => ?_) (fun b ob u e => ?_) (fun b ps e => ?_) (fun m hm => ?_) (fun b u e => ?_) I.bare
  · rcases List.mem_cons.mp hb with rfl | hb
    · exact ⟨fk.2.2.2.1, fk.2.1, fk.2.2.2.2.1, fk.2.2.2.2.2⟩
    · obtain rfl := List.mem_singleton.mp hb
      exact ⟨fa.2.2.2.1, fa.2.1, fa.2.2.2.2.1, fa.2.2.2.2.2⟩
  · exact keep b u (fun z => hc (by simp [z])) (fun z => hc (by simp [z])) e
  · exact ⟨u.slots, keep b u (fun z => hc (by simp [z])) (fun z => hc (by simp [z])) e⟩
  · rw [upd_ne (fun z => hc (by simp [z]))]; exact n
  · exact ⟨u, keep b u (fun z => hc (by simp [z])) (fun z => hc (by simp [z])) e⟩
  · rw [upd_ne (na b _ e)]; exact e
  · rw [upd_ne (na b _ e)]; exact e
  · exact ⟨#[], by rw [upd_ne (na b _ e), e]; simp⟩
  · obtain ⟨o, es, ep, ho, r⟩ := hm
    exact ⟨o, es, ep, keep _ o (Ne.symm fk.2.1) (Ne.symm fa.2.1) ho, r⟩
  · by_cases hb : b = a
    · subst hb
      rw [upd_same] at e
      cases e
      exact new
    · rw [upd_ne hb] at e
      refine (I.hok b u e).stay (fun c v hc q => ?_) (fun c q => ?_) fun c xs q => ?_
      · have hcH : ∃ u', H c = some u' := by
          rcases hc with rfl | hc
          · exact ⟨u, e⟩
          · exact ⟨_, hc⟩
        obtain ⟨u', hc'⟩ := hcH
        exact keep c v (nk c _ hc') (na c _ hc') q
      · rw [upd_ne (na c _ q)]; exact q
      · rw [upd_ne (na c _ q)]; exact q
theorem sort_keys {need : List (Addr × Obj)} {f : Value} {a kS : Addr} {vs : List Value} {xs : List V} {as : List α} {e1 : Nat} (KF : KeyFn X T need f σ IR en) (hIR : ∀ H H' v b, Sm T H H' → IR H v b → IR H' v b) (hneed : ∀ p ∈ need, p ∈ pins)
    (I : Inv X pins σ H s) (nk : s.heap.get? kS = some (seqObj "list" #[] 0)) (na : s.heap.get? a = some (seqObj "list" #[] e1)) (hka : kS ≠ a) (fk : FpOk X pins H kS) (fa : FpOk X pins H a) (rv : Vals xs vs) (pr : Paired (IR H) xs as) (hZ : as.length ≤ 100000)
    (hal : AllAlike (as.map fun a => (en a).data)) (hsk : Sortable (as.map fun a => (en a).data)) (hu : ∀ d ∈ as.map (fun a => (en a).data), X.A.in1.in1.units + d.depth < cLine)
    (hQ : ∀ H' s' ys, Sm T H H' → H' a = none → Inv X pins σ (upd H' a (.lst ys)) s' → Paired (IR H') ys (as.mergeSort (dataLe false fun a => (en a).data)) → P (.done (.ret .none)) s') :
    wpAny (model X.prog X.w) X.A.in1.in1 (PyProof.Rows.ksk_rest a f false vs.toArray e1 (.ref kS)) P E s := by
  have hlen : vs.length = as.length := by rw [← rv.length]; exact Paired.length pr
  unfold PyProof.Rows.ksk_rest
  refine wpAny_bind (wpAny_rule ?_)
  first
    | rw [List.forIn_toArray]
    | (rw [← Array.forIn_toList]; simp only [List.toList_toArray])
    | rw [← Array.forIn_toList]
  refine wpAny_bind (PyProof.Rows.ksk_fold (fun i s' => ∃ H' kA e ys, Inv X pins σ H' s' ∧ Sm T H H' ∧ s'.heap.get? kS = some (seqObj "list" kA e) ∧ s'.heap.get? a = some (seqObj "list" #[] e1) ∧ FpOk X pins H' kS ∧ FpOk X pins H' a ∧ Vals ys kA.toList ∧ Tps H' ys ((as.take i).map en)) vs 0 s
    ⟨H, #[], 0, [], I, Sm.refl _ _, nk, na, fk, fa, .nil, by rw [List.take_zero]; exact .nil⟩ ?step ?done)
  case step =>
    rintro j x s' hx ⟨H', kA, e, ys, I', sm, nk', na', fk', fa', ry, tys⟩
    simp only [Nat.zero_add] at tys ⊢
    have hj : j < vs.length := (List.getElem?_eq_some_iff.mp hx).1
    obtain ⟨b, hb⟩ : ∃ b, as[j]? = some b := ⟨_, List.getElem?_eq_getElem (by omega)⟩
    obtain ⟨xv, hxv⟩ : ∃ xv, xs[j]? = some xv := ⟨_, List.getElem?_eq_getElem (by rw [rv.length]; exact hj)⟩
    obtain ⟨u', hu', rx⟩ := rv.get hxv
    rw [hx] at hu'
    cases hu'
    obtain ⟨b', hb', ir⟩ := Paired.at_ pr hxv
    rw [hb] at hb'
    cases hb'
    have hkz : kA.size ≤ vs.length := by
      have h1 : ys.length = kA.toList.length := ry.length
      have h2 : ys.length = ((as.take j).map en).length := tys.length
      have h3 : kA.toList.length = kA.size := Array.length_toList
      have h4 : ((as.take j).map en).length ≤ j := by rw [List.length_map, List.length_take]; omega
      omega
    have Ip : Inv X ((kS, seqObj "list" kA e) :: (a, seqObj "list" #[] e1) :: pins) σ H' s' := by
      have I1 := inv_pin I' na' fa' (fun v z => by cases z)
      refine inv_pin I1 nk' ⟨fk'.1, fk'.2.1, fk'.2.2.1, fk'.2.2.2.1, fk'.2.2.2.2.1, fun p hp => ?_⟩ (fun v z => by cases z)
      rcases List.mem_append.mp hp with q | q
      · exact fk'.2.2.2.2.2 p (List.mem_append.mpr (.inl q))
      · rcases List.mem_cons.mp q with rfl | q
        · exact fun z => hka z.symm
        · exact fk'.2.2.2.2.2 p (List.mem_append.mpr (.inr q))
    refine wpAny_bind (wpAny_attempt (wpAny_mono (KF _ H' s' xv x b (fun p hp => List.mem_cons_of_mem _ (List.mem_cons_of_mem _ (hneed p hp))) Ip rx (hIR _ _ _ _ sm ir)) (fun v s'' he => ?_) fun _ _ hF => hF.elim))
    obtain ⟨y, H2, I2, r2, sm2, t2⟩ := he
    have pk := I2.pin (kS, seqObj "list" kA e) (List.mem_append.mpr (.inr List.mem_cons_self))
    have pa := I2.pin (a, seqObj "list" #[] e1) (List.mem_append.mpr (.inr (List.mem_cons_of_mem _ List.mem_cons_self)))
    have I3 : Inv X pins σ H2 s'' := inv_unpin I2 fun p hp => List.mem_cons_of_mem _ (List.mem_cons_of_mem _ hp)
    have fk2 : FpOk X pins H2 kS := fp_heap fk' pk.2.1
    have fa2 : FpOk X pins H2 a := fp_heap fa' pa.2.1
    have nk2 : s''.heap.get? kS = some (seqObj "list" kA e) := pk.1
    have na2 : s''.heap.get? a = some (seqObj "list" #[] e1) := pa.1
    have s1 := Heap.SameBut.update s''.heap kS (Obj.mapSeq (·.push v))
    obtain ⟨c2, hc2⟩ : ∃ c2, (s''.heap.update kS (Obj.mapSeq (·.push v))).get? kS = some (seqObj "list" (kA.push v) c2) := ⟨_, PyProof.Rows.get?_update_seq nk2 (·.push v)⟩
    have I4 := I3.turned (t' := s''.toks) (h' := s''.heap.update kS (Obj.mapSeq (·.push v))) (it := kS) (fun b o hb e => (s1.2 b hb).trans e) fk2.1 fk2.2.1 fk2.2.2.2.1 fk2.2.2.2.2.1 fk2.2.2.2.2.2
    refine wpAny_bind (PyProof.Rows.listUpdate_at nk2 rfl ?_ (sz_le' (by omega)) (Nat.le_trans (Nat.le_of_eq (Array.size_push ..)) (Nat.succ_le_succ (sz_le' (by omega)))))
    refine wpAny_pure ⟨rfl, H2, kA.push v, c2, ys ++ [y], I4, sm.trans sm2, hc2, (s1.2 a hka.symm).trans na2, fk2, fa2, ?_, ?_⟩
    · rw [show (kA.push v).toList = kA.toList ++ [v] by simp]
      exact ry.append (.cons r2 .nil)
    · rw [show as.take (j + 1) = as.take j ++ [b] by rw [List.take_add_one, hb]; simp, List.map_append]
      exact (Tps.ts sm2.ts _ _ tys).append (.cons t2 .nil)
  case done =>
    rintro s' ⟨H', kA, e, ys, I', sm, nk', na', fk', fa', ry, tys⟩
    rw [show as.take (0 + vs.length) = as by rw [List.take_of_length_le (by omega)]] at tys
    have hk' : EachIs (fun v k => ∃ as, Reads s'.heap v k as) kA.toList (as.map fun a => (en a).data) := by
      rw [← datas_map]
      exact each_of I'.hok ry tys
    have hsz : kA.size = vs.length := by
      have h1 := hk'.length
      rw [Array.length_toList, List.length_map] at h1
      omega
    try dsimp only
    refine wpAny_bind (PyProof.Rows.listItems_at nk' rfl ?_)
    have hh1 : ∀ b o, (hideAll s'.heap [kS]).get? b = some o → s'.heap.get? b = some o := fun b o e => of_hideAll [kS] e
    refine keyH_end (κ := dataKind s'.heap (as.map fun a => (en a).data)) (h₁ := hideAll s'.heap [kS]) (fun b o _ e => hh1 b o e) (hideAll_none [kS] List.mem_cons_self) nk' na' hka (SortsAt.data hk' hal hsk hu) hsz (sz_le' (by omega)) fun h3 tk3 c k3 n3 => ?_
    have ee := keyedOut_each (rev := false) (R := fun v b => ∃ x, RelV x v ∧ IR H' x b) (bs := as) (vs := vs) (out := sortVals (dataKind s'.heap (as.map fun a => (en a).data)) false kA.toList vs) (fun a => (en a).data) ⟨s'.heap, kA.toList, hal, rfl, hk'⟩
      (vals_each (H := H') rv (Paired.mapP pr fun v b q => hIR _ _ _ _ sm q))
    obtain ⟨zs, rz, pz⟩ := each_vals ee
    refine hQ H' _ zs sm fa'.1 (inv_two (t' := tk3) (h' := h3) I' fk' fa' (fun b u hb1 hb2 q => k3 b u hb2 (hideAll_get [kS] q (by simpa using hb1))) ?_) pz
    refine ⟨sz_le' (by rw [Paired.length pz, List.length_mergeSort]; omega), _, c, rz, n3⟩
end
/-! ### sorted(xs, key=f) -/
section
variable {X : Cx} {T : List (Addr × Str)} {pins : List (Addr × Obj)} {σ : L2.St} {H : Hp} {s : Shared} {α : Type} {IR : Hp → V → α → Prop} {en : α → NestedKey} {E : Value → Shared → Prop}
theorem sort_tree {need : List (Addr × Obj)} {f : Value} {a : Addr} {vs : List Value} {xs : List V} {as : List α} {n : Nat} {P : PySem.Fin → Shared → Prop} (KF : KeyFn X T need f σ IR en) (hIR : ∀ H H' v b, Sm T H H' → IR H v b → IR H' v b) (hneed : ∀ p ∈ need, p ∈ pins)
    (I : Inv X pins σ H s) (ho : s.heap.get? a = some (seqObj "list" vs.toArray n)) (fa : FpOk X pins H a) (rv : Vals xs vs) (pr : Paired (IR H) xs as) (hZ : as.length ≤ 100000)
    (hal : AllAlike (as.map fun a => (en a).data)) (hsk : Sortable (as.map fun a => (en a).data)) (hu : ∀ d ∈ as.map (fun a => (en a).data), X.A.in1.in1.units + d.depth < cLine)
    (hQ : ∀ H' s' ys, Sm T H H' → H' a = none → Inv X pins σ (upd H' a (.lst ys)) s' → Paired (IR H') ys (as.mergeSort (dataLe false fun a => (en a).data)) → P (.done (.ret .none)) s') :
    wpAny (model X.prog X.w) X.A.in1.in1 (PyProof.Rows.ksk_tree a f false) P E s := by
  have hlen : vs.length = as.length := by rw [← rv.length]; exact Paired.length pr
  have hV : vs.length ≤ sizeLine := sz_le' (by omega)
  have ha : a < s.heap.objs.size := Heap.lt_size ho
  obtain ⟨e1, ho1⟩ : ∃ e1, (s.heap.update a (Obj.mapSeq fun _ => (#[] : Array Value))).get? a = some (seqObj "list" #[] e1) := ⟨_, PyProof.Rows.get?_update_seq ho fun _ => #[]⟩
  have sb := Heap.SameBut.update s.heap a (Obj.mapSeq fun _ => (#[] : Array Value))
  have hkS : ((s.heap.update a (Obj.mapSeq fun _ => (#[] : Array Value))).push (seqObj "tuple" vs.toArray 0)).objs.size = s.heap.objs.size + 1 := by rw [PyProof.Rows.size_push', Heap.size_update]
  have I1 : Inv X pins σ H { s with heap := s.heap.update a (Obj.mapSeq fun _ => (#[] : Array Value)) } :=
    I.turned (t' := s.toks) (it := a) (fun b o hb e => (sb.2 b hb).trans e) fa.1 fa.2.1 fa.2.2.2.1 fa.2.2.2.2.1 fa.2.2.2.2.2
  have I2 : Inv X pins σ H { s with heap := (s.heap.update a (Obj.mapSeq fun _ => (#[] : Array Value))).push (seqObj "tuple" vs.toArray 0) } := I1.kept (t' := s.toks) fun b o e => Heap.get?_push_of_some _ e
  have I3 : Inv X pins σ H { s with heap := ((s.heap.update a (Obj.mapSeq fun _ => (#[] : Array Value))).push (seqObj "tuple" vs.toArray 0)).push (seqObj "list" #[] 0) } := I2.kept (t' := s.toks) fun b o e => Heap.get?_push_of_some _ e
  have fk : FpOk X pins H ((s.heap.update a (Obj.mapSeq fun _ => (#[] : Array Value))).push (seqObj "tuple" vs.toArray 0)).objs.size := I2.fpOk (Nat.le_refl _) (I2.hok.fresh (Nat.le_refl _))
  unfold PyProof.Rows.ksk_tree
  refine wpAny_bind (PyProof.Rows.listItems_at ho rfl ?_)
  refine wpAny_bind (PyProof.Rows.listUpdate_at ho rfl ?_ (by rw [List.size_toArray]; exact hV) (Nat.zero_le _))
  refine wpAny_bind (PyProof.Rows.seqEpoch_at ho1 rfl ?_)
  refine wpAny_bind (wpAny_newTuple ?_ (by show vs.length ≤ _; exact hV))
  refine wpAny_bind (wpAny_newList ?_ (Nat.zero_le _))
  refine wpAny_holding ?_
  exact sort_keys (kS := ((s.heap.update a (Obj.mapSeq fun _ => (#[] : Array Value))).push (seqObj "tuple" vs.toArray 0)).objs.size) KF hIR hneed I3 (Heap.get?_push_size _ rfl) (Heap.get?_push_of_some _ (Heap.get?_push_of_some _ ho1)) (by rw [hkS]; exact Nat.ne_of_gt (Nat.lt_succ_of_lt ha)) fk fa rv pr hZ hal hsk hu hQ
/-- the call of sorted, by what its argument is collected to -/
theorem sorted_run {need : List (Addr × Obj)} {q : Addr} {src : Value} {vs : List Value} {xs : List V} {as : List α} {Q : VK} (KF : KeyFn X T need (.ref q) σ IR en) (hIR : ∀ H H' v b, Sm T H H' → IR H v b → IR H' v b) (hneed : ∀ p ∈ need, p ∈ pins)
    (I : Inv X pins σ H s) (rv : Vals xs vs) (pr : Paired (IR H) xs as) (hZ : as.length ≤ 100000)
    (hcol : ∀ (R : List Value → Shared → Prop) (E' : Value → Shared → Prop), (∀ h' tk, (∀ b o, s.heap.get? b = some o → h'.get? b = some o) → R vs { s with heap := h', toks := tk }) → wpAny (model X.prog X.w) X.A.in1 (collect src) R E' s)
    (hal : AllAlike (as.map fun a => (en a).data)) (hsk : Sortable (as.map fun a => (en a).data)) (hu : ∀ d ∈ as.map (fun a => (en a).data), X.A.in1.in1.units + d.depth < cLine)
    (hQ : ∀ p H' ys, Sm T H H' → H' p = none → Paired (IR H') ys (as.mergeSort (dataLe false fun a => (en a).data)) → Q (.ref p) (upd H' p (.lst ys))) :
    wpAny (model X.prog X.w) X.A (call (.builtin "sorted") [src] [(Str.ofString "key", .ref q)]) (EP X pins σ Q) E s := by
  have hlen : vs.length = as.length := by rw [← rv.length]; exact Paired.length pr
  have hV : vs.length ≤ sizeLine := sz_le' (by omega)
  refine call_function_entry_kw kind_sorted plain_sorted entry_sorted (PyProof.Rows.ksk_s1 _ _) ?_
  unfold Builtin.«sorted»
  refine wpAny_bind (m := checkCount "sorted" 1 1 _) (wpAny_pure ?_)
  refine wpAny_bind (hcol _ _ fun h' tk hk => ?_)
  refine wpAny_bind (wpAny_newList ?_ hV)
  have I1 : Inv X pins σ H { s with heap := h', toks := tk } := I.kept (t' := tk) hk
  have I2 : Inv X pins σ H { s with heap := h'.push (seqObj "list" vs.toArray 0), toks := tk } := I1.kept (t' := tk) fun b o e => Heap.get?_push_of_some _ e
  have fa : FpOk X pins H h'.objs.size := I1.fpOk (Nat.le_refl _) (I1.hok.fresh (Nat.le_refl _))
  show wpAny _ _ _ _ _ { s with heap := h'.push (seqObj "list" vs.toArray 0), toks := tk }
  refine wpAny_bind (wpAny_holding (wpAny_call_entry_kw slot_list_sort ⟨_, Heap.get?_push_size _ rfl, rfl⟩ entry_list_sort ?body (PyProof.Rows.ksk_l1 _ _)))
  case body =>
    show wpAny (model X.prog X.w) X.A.in1.in1 (Builtin.«list.sort» ⟨[.ref h'.objs.size], [(Str.ofString "key", .ref q)]⟩) _ _ _
    rw [PyProof.Rows.ksk_t1]
    refine sort_tree KF hIR hneed I2 (Heap.get?_push_size _ rfl) fa rv pr hZ hal hsk hu fun H' s' ys sm hn I' pz => ?_
    exact ⟨_, rfl, wpAny_pure ⟨_, rfl, .ref h'.objs.size, _, I', rfl, hQ _ H' ys sm hn pz⟩⟩
theorem list_col {a : Addr} {xs : List V} (I : Inv X pins σ H s) (h : H a = some (.lst xs)) (hz : xs.length ≤ 100000) : ∃ vs, Vals xs vs ∧
    ∀ (R : List Value → Shared → Prop) (E' : Value → Shared → Prop), (∀ h' tk, (∀ b o, s.heap.get? b = some o → h'.get? b = some o) → R vs { s with heap := h', toks := tk }) → wpAny (model X.prog X.w) X.A.in1 (collect (.ref a)) R E' s := by
  obtain ⟨_, its, n, rv, e⟩ := I.hok _ _ h
  refine ⟨its, rv, fun R E' k => ?_⟩
  refine PyProof.Rows.collect_list (l := a) ⟨_, e, rfl, n, rfl⟩ (k _ s.toks fun b o q => ?_) (sz_le' (by rw [← rv.length]; omega))
  have sb := Heap.SameBut.update (s.heap.push (seqObj "list" #[] 0)) s.heap.objs.size (Obj.mapSeq (· ++ its.toArray))
  exact (sb.2 b (Nat.ne_of_lt (Heap.lt_size q))).trans (Heap.get?_push_of_some _ q)
end
def rSortK (T : List (Addr × Str)) (q : Addr) {α : Type} (IR : Hp → V → α → Prop) (en : α → NestedKey) : List V → List V → Hp → VK → Prop := fun vs zs H Q => ∃ a xs as, vs = [V.ref a] ∧ zs = [.ref q] ∧ H a = some (.lst xs) ∧ Paired (IR H) xs as ∧ as.length ≤ 100000 ∧
  AllAlike (as.map fun a => (en a).data) ∧ Sortable (as.map fun a => (en a).data) ∧ (∀ a ∈ as, (en a).data.depth ≤ 50) ∧ ∀ p H' ys, Sm T H H' → H' p = none → Paired (IR H') ys (as.mergeSort (dataLe false fun a => (en a).data)) → Q (.ref p) (upd H' p (.lst ys))
theorem cr_sortK {X : Cx} {T : List (Addr × Str)} {q : Addr} {α : Type} {IR : Hp → V → α → Prop} {en : α → NestedKey} (KF : ∀ σ, KeyFn X T [] (.ref q) σ IR en) (hIR : ∀ H H' v b, Sm T H H' → IR H v b → IR H' v b) (hu : X.A.units + 64 < cLine) : CallRK X (.builtin "sorted") [Str.ofString "key"] (rSortK T q IR en) := by
  intro pins s σ H vs zs us ws Q I r rz h
  obtain ⟨a, xs, as, rfl, rfl, ha, pr, hZ, hal, hsk, hd, k⟩ := h
  obtain rfl := Vals.ref1 r
  obtain ⟨w1, rfl, e1⟩ := vals1 rz
  obtain rfl : w1 = Value.ref q := e1
  obtain ⟨vs, rv, hcol⟩ := list_col I ha (by rw [Paired.length pr]; exact hZ)
  refine sorted_run (KF σ) hIR (fun p hp => by cases hp) I rv pr hZ hcol hal hsk (fun d hd' => ?_) k
  obtain ⟨b, hb, rfl⟩ := List.mem_map.mp hd'
  have := hd b hb
  show X.A.units + 1 + 1 + _ < _
  omega
/-- a def is such a function -/
theorem keyfn_df {X : Cx} {T : List (Addr × Str)} {x : Str} {k j : Nat} {ps : List Str} {sp : Sp} {α : Type} {IR : Hp → V → α → Prop} {en : α → NestedKey} {q : Addr} (D : Df X.prog X.w X.K X.mg X.base x k ps sp) (hq : X.mg x = some (.ref q)) (hr : Room j X.A) (hk : k + 2 ≤ j)
    (hsp : ∀ (H : Hp) (v : V) (a : α) (Q : VK) (E : XK), IR H v a → (∀ y H', Sm T H H' → Tp H' y (en a) → Q y H') → sp [v] H Q E) (σ : L2.St) : KeyFn X T [] (.ref q) σ IR en := by
  intro pins H s x u a _ I r ir
  obtain ⟨f, fd, hm, F, kp, hb⟩ := D
  rw [hm] at hq
  cases hq
  have hr2 : Room k X.A.in1.in1 := ((hr.mono hk : Room (k + 2) X.A).in1 : Room (k + 1) X.A.in1).in1
  have hsp' := hsp H x a (fun y H' => Sm T H H' ∧ Tp H' y (en a)) E0 ir fun y H' e t => ⟨e, t⟩
  have rv : Vals [x] [u] := .cons r .nil
  have hl : [u].length = ps.length := by rw [← rv.length]; exact F.len _ _ _ _ hsp'
  refine wpAny_call (codeAny_mono (F.run X.A.in1.in1 X.stack s H ⟨[u], []⟩ [u] [x] _ E0 hr2 (I.env0.in1.in1) (by have := hb s [u] I.kIn (by simpa using hl); simpa using this) rv hsp') fun r s' hq => ?_)
  cases r with
  | error e => exact hq.elim
  | ok fl =>
    cases fl with
    | ret u => exact I.after hq
    | next => exact False.elim hq
    | brk => exact False.elim hq
    | cont => exact False.elim hq
end K67
end
/-! ## K67Lam -/
section
set_option maxHeartbeats 4000000
/-! K67Lam: a lambda of one parameter: made (tracked), called by sorted -/
namespace K67
open PySem PySem.Spec PyProof.Rows L2 LamX NdefX PySem.W
/-- the object at f is this lambda -/
def LamO (q : Str) (params : Arguments) (body : Expr) (scope : Scope) (cl : List (Str × Addr)) (f c' : Addr) : HO := .ext fun h => ∃ pm ctv, h.get? f = some (PySem.W.kla_obj "<lambda>" q params body scope cl pm c' ctv)
theorem lamO_at {P : Program} {w : World} {H : Hp} {h : Heap} {q : Str} {params : Arguments} {body : Expr} {scope : Scope} {cl : List (Str × Addr)} {f c' : Addr} (ok : HOk P w H h) (e : H f = some (LamO q params body scope cl f c')) : ∃ pm ctv, h.get? f = some (PySem.W.kla_obj "<lambda>" q params body scope cl pm c' ctv) := by
  obtain ⟨z, _, _⟩ := ok f _ e
  exact z
theorem lamO_ne {q : Str} {params : Arguments} {body : Expr} {scope : Scope} {cl : List (Str × Addr)} {f c' : Addr} (ps : Array Value) : LamO q params body scope cl f c' ≠ .tbl ps := fun z => by
  unfold LamO at z
  cases z
section
variable {X : Cx} {T : List (Addr × Str)} {pins : List (Addr × Obj)} {σ : L2.St} {H : Hp} {s : Shared} {c P : Addr} {params : Arguments} {body : Expr} {scope : Scope} {pos : Pos}
theorem inv_lam {q : Str} {cl : List (Str × Addr)} {pm ctv : Value} {c' : Addr} {t' : Nat} (I : Inv X pins σ H s) :
    Inv X pins σ (upd H s.heap.objs.size (LamO q params body scope cl s.heap.objs.size c')) { s with heap := s.heap.push (PySem.W.kla_obj "<lambda>" q params body scope cl pm c' ctv), toks := t' } := by
  refine I.laid (a := s.heap.objs.size) (fun b u e => Heap.get?_push_of_some _ e) (Nat.le_refl _) ?_
  have e : (s.heap.push (PySem.W.kla_obj "<lambda>" q params body scope cl pm c' ctv)).get? s.heap.objs.size = some (PySem.W.kla_obj "<lambda>" q params body scope cl pm c' ctv) := Heap.get?_push_size _ rfl
  exact ⟨⟨pm, ctv, e⟩, ⟨_, e⟩, fun h1 h2 ⟨p, t, z⟩ st => ⟨p, t, st _ z⟩⟩
theorem tabs_new {H : Hp} {p : Addr} {o : HO} (hT : Tabs T H) (hp : H p = none) : Tabs T (upd H p o) := (Sm.new (T := T) hp).2 hT
/-- the making of a lambda -/
theorem lam_make3 {E : Value → Shared → Prop} {Q : Value → Shared → Prop} (I : Inv X pins σ H s) (TB : TabB X.base X.mg c P) (hcode : X.env.code = .ref c)
    (hm : (P, X.env.qual ++ "<lambda>") ∈ T) (hu : ∀ p ∈ T, p.1 = P → p.2 = X.env.qual ++ "<lambda>") (hT : Tabs T H) (hdef : defaultsOf params X.env = ([], [])) (hfree : ∀ y ∈ scope.names, y.2 = .free → ∃ c, X.env.cells.lookup y.1 = some c)
    (h : ∀ (f c' : Addr) (H1 : Hp) (s' : Shared), Inv X pins σ H1 s' → Sm T H H1 → H1 f = some (LamO (X.env.qual ++ "<lambda>") params body scope (cloFrom X.env.cells scope.names []) f c') → H1 c' = some (CodeO c' (X.env.qual ++ "<lambda>")) → Q (.ref f) s') :
    wpAny (model X.prog X.w) X.A (eval (.Lambda params body scope pos) X.env) Q E s := by
  obtain ⟨ps, hP, ht, ha⟩ := hT _ hm
  have hP' : s.heap.get? P = some { cls := .none, data := .fields ps } := I.hok P _ hP
  have bP : s.heap.BuiltinsAt X.mg P := TB.bm.keeps I.bk
  refine PySem.W.kla_eval hdef ?_
  cases hc : codeAmong pos ps.toList with
  | some cv =>
    obtain ⟨c', e, hco⟩ := ha pos cv hc
    subst e
    refine PySem.W.kla_makeFunctionHit (mg := X.mg) (c := c) (P := P) (ps := ps) (closure_ok hfree) I.ok.glob (I.mod.glob.keeps I.bk) hcode (TB.code.keeps I.bk) hP' ht hc bP fun ctv h' tk hx hsz => ?_
    have I0 : Inv X pins σ H { s with heap := h', toks := tk } := I.kept (t' := tk) hx
    have hf : H h'.objs.size = none := I0.hok.fresh (Nat.le_refl _)
    have I1 := inv_lam (params := params) (body := body) (scope := scope) (q := X.env.qual ++ "<lambda>") (cl := cloFrom X.env.cells scope.names []) (pm := (X.mg "__name__").getD .none) (ctv := ctv) (c' := c') (t' := tk) I0
    exact h h'.objs.size c' _ _ I1 (Sm.new hf) upd_same (by rw [upd_ne (ne_of_none hco hf)]; exact hco)
  | none =>
    refine PySem.W.kla_makeFunction (mg := X.mg) (c := c) (P := P) (ps := ps) (closure_ok hfree) I.ok.glob (I.mod.glob.keeps I.bk) hcode (TB.code.keeps I.bk) hP' ht hc TB.gP bP fun c' ctv h' tk hx hge hlt hrec htb => ?_
    obtain ⟨c2, oc, vs, t, e2, hoc, hd, hv⟩ := hrec
    cases e2
    have nC : H c' = none := I.hok.fresh hge
    have I0 := inv_table (t' := tk) (q := X.env.qual ++ "<lambda>") (more := #[rawInt pos.line, rawInt pos.col, .ref c']) (h' := h') I hP hx htb hge ⟨oc, vs, t, hoc, hd, hv⟩
    have hE : ExtN H (upd (upd H P (.tbl (ps ++ #[rawInt pos.line, rawInt pos.col, .ref c']))) c' (CodeO c' (X.env.qual ++ "<lambda>"))) := fun b o e n => by
      have nb : b ≠ P := fun z => n ps (Option.some.inj (e.symm.trans (by rw [z]; exact hP)))
      rw [upd_ne (ne_of_none e nC), upd_ne nb]
      exact e
    have hf : (upd (upd H P (.tbl (ps ++ #[rawInt pos.line, rawInt pos.col, .ref c']))) c' (CodeO c' (X.env.qual ++ "<lambda>"))) h'.objs.size = none := I0.hok.fresh (Nat.le_refl _)
    have eL : (ps ++ #[rawInt pos.line, rawInt pos.col, .ref c']).toList = ps.toList ++ [rawInt pos.line, rawInt pos.col, .ref c'] := by simp
    have hT0 : Tabs T (upd (upd H P (.tbl (ps ++ #[rawInt pos.line, rawInt pos.col, .ref c']))) c' (CodeO c' (X.env.qual ++ "<lambda>"))) := fun p hp => by
      by_cases hb : p.1 = P
      · refine ⟨ps ++ #[rawInt pos.line, rawInt pos.col, .ref c'], by rw [hb, upd_ne (ne_of_none hP nC), upd_same], by rw [eL]; exact PySem.TriplesOk_snoc _ _ _ _ ht, fun p' cv hcv => ?_⟩
        rw [hu p hp hb]
        rw [eL] at hcv
        rcases among_app _ ht hcv with z | z
        · obtain ⟨c0, e1, e2⟩ := ha p' cv z
          exact ⟨c0, e1, hE _ _ e2 codeO_ne⟩
        · exact ⟨c', z, upd_same⟩
      · obtain ⟨ps', a1, a2, a3⟩ := hT p hp
        refine ⟨ps', by rw [upd_ne (ne_of_none a1 nC), upd_ne hb]; exact a1, a2, fun p' cv hcv => ?_⟩
        obtain ⟨c0, e1, e2⟩ := a3 p' cv hcv
        exact ⟨c0, e1, hE _ _ e2 codeO_ne⟩
    have I1 := inv_lam (params := params) (body := body) (scope := scope) (q := X.env.qual ++ "<lambda>") (cl := cloFrom X.env.cells scope.names []) (pm := (X.mg "__name__").getD .none) (ctv := ctv) (c' := c') (t' := tk) I0
    refine h h'.objs.size c' _ _ I1 (Sm.trans ⟨hE, fun _ => hT0⟩ (Sm.new hf)) upd_same ?_
    rw [upd_ne (ne_of_none upd_same hf)]
    exact upd_same
end
/-! ### a lambda is a key function -/
section
variable {X : Cx} {T : List (Addr × Str)} {σ : L2.St} {params : Arguments} {body : Expr} {scope : Scope} {q : Str} {cl : List (Str × Addr)} {N fr : List Str} {js : List Nat} {x : Str} {k j : Nat} {α : Type} {en : α → NestedKey}
abbrev lamF (q : Str) (params : Arguments) (scope : Scope) (cl : List (Str × Addr)) (c' : Addr) : NF := ⟨"<lambda>", q, params, [], scope, cl, c'⟩
theorem keyfn_lam {IR : Hp → V → α → Prop} {f c' : Addr} (S : NScope N [x] fr scope) (cp : X.Ok → Caps X cl fr js)
    (hb : ∀ (pm ctv u : Value), bindArgs (PySem.W.kla_fn "<lambda>" q params body scope cl pm (.ref c') ctv) ⟨[u], []⟩ = pure [(x, u)]) (hr : Room j X.A) (hk : k + 3 ≤ j) {te : TE}
    (hpe : ∀ (A : Around) (outer : List Env) (s : Shared) (H : Hp) (E : XK), Room k (A.deeper (envF (lamF q params scope cl c') f s.heap.objs.size)) → PE (ncx CX0 X.prog X.w X.K X.mg X.base N (lamF q params scope cl c') f A outer s H E) body te)
    (hbody : ∀ (H : Hp) (v : V) (a : α), IR H v a → te (startF N [v] (js.map (slotAt σ))) H (fun y H' => Sm T H H' ∧ Tp H' y (en a))) :
    KeyFn X T [] (.ref f) σ (fun H v a => IR H v a ∧ H f = some (LamO q params body scope cl f c') ∧ H c' = some (CodeO c' q)) en := by
  intro pins H s v u a _ I r ⟨ir, hf, hc⟩
  have hr2 : Room (k + 1) X.A.in1.in1 := ((hr.mono hk : Room (k + 3) X.A).in1 : Room (k + 2) X.A.in1).in1
  obtain ⟨pm, ctv, ho⟩ := lamO_at I.hok hf
  obtain ⟨⟨oc, vs, t, hoc, hdc, hvc⟩, _, _⟩ := I.hok c' _ hc
  have C := cells_of I (cp I.ok)
  have e0 : Env0 X.prog X.w X.K X.mg X.base X.A.in1.in1 X.stack s H := I.env0.in1.in1
  have lim : s.heap.NoLimit := e0.mod.nolimit.keeps fun b o e => (e0.bs b o e).1
  have rc : codeAny (model X.prog X.w) X.A.in1.in1 (.call (.ref f) ⟨[u], []⟩) (CR CX0 X.stack X.prog X.w H s (fun y H' => Sm T H H' ∧ Tp H' y (en a)) E0) s := by
    refine PySem.W.kla_callFunE hr2.depth ho rfl S.co S.gen rfl ⟨c', oc, vs, t, rfl, hoc, hdc, hvc⟩ ?_
    rw [hb pm ctv u]
    refine wpAny_pure (wpAny_newFunctionEnv S.nocell (fun y hy => ?_) (fun h₁ hns hsb => ⟨lim.fresh _ hsb, ?_⟩) S.kind)
    · obtain rfl := List.mem_singleton.mp hy
      exact S.par _ List.mem_cons_self
    · have kp : ∀ b o, s.heap.get? b = some o → h₁.get? b = some o := fun b o e => hsb.extBut b o (Nat.ne_of_lt (Heap.lt_size e)) (Heap.get?_push_of_some _ e)
      have J : Inv (ncx CX0 X.prog X.w X.K X.mg X.base N (lamF q params scope cl c') f X.A.in1.in1 X.stack s H E0) [] (startF N [v] (js.map (slotAt σ))) H { s with heap := h₁, toks := s.toks + [(x, u)].length } :=
        inv_startN (F := lamF q params scope cl c') (us := [u]) (ps := [x]) S hr2.hd e0 rfl (.cons r .nil) C hns kp
      refine PySem.W.kla_codeExpr (wpAny_mono ((hpe X.A.in1.in1 X.stack s H E0 (hr2.deeper _)).run [] _ _ H _ J (hbody H v a ir)) (fun v' s' hq => ?_) fun e s' hq => hq)
      obtain ⟨w', H', J', rv, qq⟩ := hq
      exact ⟨w', H', J'.os, J'.bare, J'.base, J'.hok, rv, qq⟩
  refine wpAny_call (codeAny_mono rc fun r s' hq => ?_)
  cases r with
  | error e => exact hq.elim
  | ok fl =>
    cases fl with
    | ret u => exact I.after hq
    | next => exact False.elim hq
    | brk => exact False.elim hq
    | cont => exact False.elim hq
end
/-! ### what sorted walks: a list, a dict's keys -/
def SrcOf (P : Program) (w : World) (H : Hp) (x : V) (xs : List V) : Prop := (∃ a, x = .ref a ∧ H a = some (.lst xs)) ∨ ∃ d es, x = .ref d ∧ DictE P w H d es ∧ xs = es.map fun e => .ref e.2.1
section
variable {prog : Program} {w : World} {A : Around} {E : Value → Shared → Prop} {s : Shared}
theorem kdl_collect {T : String} {r d : Addr} {n : Nat} {P : Nat → Value → Prop} {OK : Heap → Prop} {R : List Value → Shared → Prop} (K : KdlSrc prog w T r d n P OK) (hh : A.handled = none) (hok : OK s.heap) (hn : n ≤ sizeLine)
    (h : ∀ h' tk acc', (∀ b o, s.heap.get? b = some o → h'.get? b = some o) → ItemsOf P acc' n → R acc'.toList { s with heap := h', toks := tk }) : wpAny (model prog w) A (collect (.ref r)) R E s := by
  have hlt := K.there _ hok
  unfold collect
  refine wpAny_bind (wpAny_runValue (codeAny_builtin PyProof.Rows.entry_proto_collect' ?_))
  rw [Around.under_plainId PySem.F.plain_proto_collect _]
  show wpAny _ A.in1 (newList [] >>= fun l => again (.builtin "list.__iadd__" ⟨[l, .ref r], []⟩)) _ _ s
  refine wpAny_bind (wpAny_newObj_type ?_)
  refine wpAny_pure ⟨plainId_quiet PySem.F.plain_list_iadd _, codeAny_builtin PyProof.Rows.entry_list_iadd' ?_⟩
  rw [Around.under_plainId PySem.F.plain_list_iadd _]
  have hS : (s.heap.push { cls := .type "list", data := .seq ([] : List Value).toArray }).get? s.heap.objs.size = some { cls := .type "list", data := .seq #[] } := Heap.get?_push_size _ rfl
  show wpAny _ A.in1 (Builtin.List.listExtendWith (.ref s.heap.objs.size) (.ref r) (.ref s.heap.objs.size)) _ _ _
  have key := kdl_extend (prog := prog) (w := w) (A := A) (s := { s with heap := s.heap.push { cls := .type "list", data := .seq ([] : List Value).toArray } })
    (R := fun (q : Result) (s' : Shared) => ∃ (h' : Heap) (tk : Nat) (acc' : Array Value) (c' : Nat), q = .ok (.ret (.ref s.heap.objs.size)) ∧ s' = { s with heap := h', toks := tk } ∧
      (∀ b o, s.heap.get? b = some o → h'.get? b = some o) ∧ h'.get? s.heap.objs.size = some { cls := .type "list", dict := none, data := .seq acc' c', slots := #[] } ∧ ItemsOf P acc' n)
    K hh (K.keep _ _ hok fun b _ o e => Heap.get?_push_of_some _ e) s.heap.objs.size (Nat.ne_of_gt hlt.1) (Nat.ne_of_gt hlt.2) (.ref s.heap.objs.size) 0 hS
    (fun h' tk acc' c' hk hS' hi => ⟨h', tk, acc', c', rfl, rfl, fun b o e => hk b o (Nat.ne_of_lt (Heap.lt_size e)) (Heap.get?_push_of_some _ e), hS', hi⟩) hn
  refine wpAny_mono key (fun fin s' x => ?_) fun e s' x => ?_
  · cases fin with
    | done f =>
      obtain ⟨h', tk, acc', c', e, rfl, hk, hS', hi⟩ := x
      cases e
      show wpAny _ A (load s.heap.objs.size >>= _) _ _ _
      refine wpAny_bind (wpAny_load hS' ?_)
      exact wpAny_pure (h h' tk acc' hk hi)
    | again c₁ =>
      refine ⟨x.1, codeAny_mono x.2 fun q s₂ y => ?_⟩
      obtain ⟨h', tk, acc', c', rfl, rfl, hk, hS', hi⟩ := y
      show wpAny _ A (load s.heap.objs.size >>= _) _ _ _
      refine wpAny_bind (wpAny_load hS' ?_)
      exact wpAny_pure (h h' tk acc' hk hi)
  · obtain ⟨h', tk, acc', c', e', _⟩ := x
    cases e'
end
section
variable {X : Cx} {T : List (Addr × Str)} {pins : List (Addr × Obj)} {σ : L2.St} {H : Hp} {s : Shared}
theorem src_col {x : V} {u : Value} {xs : List V} (hcalm : X.calm = true) (I : Inv X pins σ H s) (r : RelV x u) (h : SrcOf X.prog X.w H x xs) (hz : xs.length ≤ 100000) : ∃ vs, Vals xs vs ∧
    ∀ (R : List Value → Shared → Prop) (E' : Value → Shared → Prop), (∀ h' tk, (∀ b o, s.heap.get? b = some o → h'.get? b = some o) → R vs { s with heap := h', toks := tk }) → wpAny (model X.prog X.w) X.A.in1 (collect u) R E' s := by
  rcases h with ⟨a, rfl, ha⟩ | ⟨d, es, rfl, hd, rfl⟩
  · cases r
    exact list_col I ha hz
  · cases r
    obtain ⟨z, lo, zs, rel, dd⟩ := hd.of I.hok
    have hl : es.length = zs.length := Paired.length rel
    obtain ⟨arr, ep, raw, hsz, hall⟩ := dd.raw
    have hv : ∀ {es : List Ent} {zs : List (NestedKey × Addr × Value)}, Paired EntR es zs → Vals (es.map fun e => V.ref e.2.1) (zs.map fun y => Value.ref y.2.1) := by
      intro es zs p
      induction p with
      | nil => exact .nil
      | cons r t ih => exact .cons (by show Value.ref _ = Value.ref _; rw [r.2.1]) ih
    refine ⟨zs.map fun y => .ref y.2.1, hv rel, fun R E' k => ?_⟩
    refine kdl_collect (n := arr.size) (KdlSrc.rawDict (prog := X.prog) (w := X.w) (es := arr) (ep := ep) lo) (I.ok.hd hcalm) raw (by rw [hsz, ← hl]; exact z) fun h' tk acc' hk hi => ?_
    have e : acc'.toList = zs.map fun y => Value.ref y.2.1 := by
      refine List.ext_getElem? fun i => ?_
      rw [List.getElem?_map, Array.getElem?_toList]
      cases q : acc'[i]? with
      | none =>
        have : acc'.size ≤ i := by simpa using q
        rw [List.getElem?_eq_none (by rw [hi.1, hsz] at this; exact this)]
        rfl
      | some v =>
        obtain ⟨hlt, e1⟩ := hi.2 i v q
        obtain ⟨y, hy, e2, _, _⟩ := hall i hlt
        rw [hy, e1, e2]
        rfl
    rw [e]
    exact k h' tk hk
end
/-! ### sorted(xs, key=lambda x: ..) -/
/-- the lambda's making -/
def tLamT (T : List (Addr × Str)) (q : Str) (params : Arguments) (body : Expr) (scope : Scope) (cl : List (Str × Addr)) : TE := fun _ H Q => Tabs T H ∧ ∀ f c' H1, Sm T H H1 → H1 f = some (LamO q params body scope cl f c') → H1 c' = some (CodeO c' q) → Q (.ref f) H1
def tSortL (P : Program) (w : World) (T : List (Addr × Str)) {α : Type} (IR : L2.St → Hp → V → α → Prop) (en : α → NestedKey) (te : TE) : TE := fun σ H Q => te σ H fun x H1 => Tabs T H1 ∧ ∃ xs as, SrcOf P w H1 x xs ∧ Paired (IR σ H1) xs as ∧ as.length ≤ 100000 ∧
  AllAlike (as.map fun a => (en a).data) ∧ Sortable (as.map fun a => (en a).data) ∧ (∀ a ∈ as, (en a).data.depth ≤ 50) ∧ ∀ p H' ys, Sm T H1 H' → H' p = none → Paired (IR σ H') ys (as.mergeSort (PySem.W.dataLe false fun a => (en a).data)) → Q (.ref p) (upd H' p (.lst ys))
theorem SrcOf.sm {P : Program} {w : World} {T : List (Addr × Str)} {H H' : Hp} {x : V} {xs : List V} (e : Sm T H H') (h : SrcOf P w H x xs) : SrcOf P w H' x xs := by
  rcases h with ⟨a, e1, h⟩ | ⟨d, es, e1, h, e2⟩
  · exact .inl ⟨a, e1, e.lst h⟩
  · exact .inr ⟨d, es, e1, h.sm e, e2⟩
section
variable {X : Cx} {P : Program} {w : World} {T : List (Addr × Str)} {c tb : Addr} {params : Arguments} {body e : Expr} {scope : Scope} {p pos lpos kpos : Pos} {α : Type} {IR : L2.St → Hp → V → α → Prop} {en : α → NestedKey} {te : TE}
theorem pe_sortL (hP : X.prog = P) (hw : X.w = w) (hcalm : X.calm = true) (ha : PA X [e] (tCons te tNil)) (TB : TabB X.base X.mg c tb) (hcode : X.env.code = .ref c) (hmT : (tb, X.env.qual ++ "<lambda>") ∈ T) (huT : ∀ p ∈ T, p.1 = tb → p.2 = X.env.qual ++ "<lambda>")
    (hdef : defaultsOf params X.env = ([], [])) (hfree : X.Ok → ∀ y ∈ scope.names, y.2 = .free → ∃ c, X.env.cells.lookup y.1 = some c)
    (KF : ∀ (σ : L2.St) (f c' : Addr), KeyFn X T [] (.ref f) σ (fun H v a => IR σ H v a ∧ H f = some (LamO (X.env.qual ++ "<lambda>") params body scope (cloFrom X.env.cells scope.names []) f c') ∧ H c' = some (CodeO c' (X.env.qual ++ "<lambda>"))) en)
    (hIR : ∀ σ H H' v b, Sm T H H' → IR σ H v b → IR σ H' v b) (hu : X.A.units + 64 < cLine) (hm : X.mg "sorted" = none) (hg : Gl X "sorted" := by rfl)
    (he1 : backTo pos (starEach [e] X.env) = (false, eval e X.env) :: backTo pos (starEach [] X.env) := by rfl) (hpl : (backTo pos (starEach [e] X.env)).any (·.1) = false := by rfl) :
    PE X (.Call (.Name "sorted" p) [e] [⟨some "key", .Lambda params body scope lpos, kpos⟩] pos) (tSortL P w T IR en te) := by
  subst hP hw
  refine ⟨fun pins s σ H Q I h => ?_⟩
  refine wpAny_Call_Name_kw (ld_blt I hg hm (by decide +kernel : bootBuiltins "sorted" = some (.builtin "sorted")) ?_)
  have hlam : PE X (.Lambda params body scope lpos) (tLamT T (X.env.qual ++ "<lambda>") params body scope (cloFrom X.env.cells scope.names [])) :=
    ⟨fun pins s σ H Q I h => lam_make3 I TB hcode hmT huT h.1 hdef (hfree I.ok) fun f c' H1 s' I1 sm h1 h2 => ⟨.ref f, H1, I1, rfl, h.2 f c' H1 sm h1 h2⟩⟩
  have hk : PK X [⟨some "key", .Lambda params body scope lpos, kpos⟩] (tCons (tLamT T (X.env.qual ++ "<lambda>") params body scope (cloFrom X.env.cells scope.names [])) tNil) := pk_cons hlam pk_nil
  refine PyProof.Rows.callWith_kw (thn (ha.run pos pins s σ H (fun vs H1 => match vs with | [x] => (Tabs T H1 ∧ ∃ xs as, SrcOf X.prog X.w H1 x xs ∧ Paired (IR σ H1) xs as ∧ as.length ≤ 100000 ∧
      AllAlike (as.map fun a => (en a).data) ∧ Sortable (as.map fun a => (en a).data) ∧ (∀ a ∈ as, (en a).data.depth ≤ 50) ∧ ∀ p H' ys, Sm T H1 H' → H' p = none → Paired (IR σ H') ys (as.mergeSort (PySem.W.dataLe false fun a => (en a).data)) → Q (.ref p) (upd H' p (.lst ys))) | _ => False) I h)
    fun us s1 ⟨vs, H1, I1, r1, q1⟩ => ?h0) he1 hpl rfl rfl
  obtain ⟨x, rfl⟩ : ∃ x, vs = [x] := by
    match vs, q1 with
    | [x], _ => exact ⟨x, rfl⟩
  obtain ⟨hT, xs, as, src, pr, hZ, hal, hsk, hd, k⟩ := q1
  refine thn (hk.run pos pins s1 σ H1 (fun zs H2 => ∃ f c', zs = [V.ref f] ∧ Sm T H1 H2 ∧ H2 f = some (LamO (X.env.qual ++ "<lambda>") params body scope (cloFrom X.env.cells scope.names []) f c') ∧ H2 c' = some (CodeO c' (X.env.qual ++ "<lambda>"))) I1 ?h2) fun ws s2 ⟨zs, H2, I2, r2, f, c', ez, sm, hf, hc⟩ => ?h3
  case h2 => exact ⟨hT, fun f c' H2 sm h1 h2 => ⟨f, c', rfl, sm, h1, h2⟩⟩
  case h3 =>
    subst ez
    obtain ⟨u, rfl, ru⟩ := vals1 r1
    obtain ⟨w1, rfl, e1⟩ := vals1 r2
    obtain rfl : w1 = Value.ref f := e1
    have hlx : xs.length ≤ 100000 := by rw [Paired.length pr]; exact hZ
    obtain ⟨vs, rv, hcol⟩ := src_col hcalm I2 ru (src.sm sm) hlx
    refine sorted_run (IR := fun H v a => IR σ H v a ∧ H f = some (LamO (X.env.qual ++ "<lambda>") params body scope (cloFrom X.env.cells scope.names []) f c') ∧ H c' = some (CodeO c' (X.env.qual ++ "<lambda>"))) (KF σ f c')
      (fun H H' v b e q => ⟨hIR σ _ _ _ _ e q.1, e.1 _ _ q.2.1 lamO_ne, e.1 _ _ q.2.2 codeO_ne⟩) (fun p hp => by cases hp) I2 rv (Paired.mapP pr fun v b q => ⟨hIR σ _ _ _ _ sm q, hf, hc⟩) hZ hcol hal hsk (fun d hd' => ?_) fun p H' ys sm' hp pz => k p H' ys (sm.trans sm') hp (Paired.mapP pz fun _ _ q => q.1)
    obtain ⟨b, hb, rfl⟩ := List.mem_map.mp hd'
    have := hd b hb
    show X.A.units + 1 + 1 + _ < _
    omega
end
end K67
end
/-! ## K67D1 -/
section
set_option maxHeartbeats 4000000
namespace K67
open PySem PySem.Spec PyProof.Rows L2 LamX
local macro_rules | `(tactic| walk_at "sm") => `(tactic| first | assumption | exact Sm.refl _ _ | (refine Sm.trans ?_ (by assumption); walk_at "sm"))
local macro_rules | `(tactic| walk_at "ts") => `(tactic| first | assumption | exact TS.refl _ | (refine TS.trans ?_ (by assumption); walk_at "ts") | (refine TS.trans ?_ (Sm.ts (by assumption)); walk_at "ts"))
local macro_rules | `(tactic| walk_at "tp") => `(tactic| first | assumption | exact Tp.int _ | exact Tp.str _ | exact Tp.non | (refine Tp.ts (H := ?_) ?_ _ _ (by assumption); walk_at "ts"))
local macro_rules | `(tactic| walk_at "tps") => `(tactic| first | assumption | exact Tps.nil | (refine Tps.cons ?_ ?_; · walk_at "tp"; · walk_at "tps") | (refine Tps.ts (H := ?_) ?_ _ _ (by assumption); walk_at "ts"))
local macro_rules | `(tactic| walk_at "rd") => `(tactic| try simp only [rMax2, and_assoc, tYes, tSeq, tIfS, tRet, tNext, tTest, tB, tOp, tUn, tVar, tC, tTup, tLst, tCons, tNil, tIf, tCB, tCall, tBM, tBM0, tAsg, gName, gCons, gNil, gSub, tDrop, tPar, tPar3, tAug, tAnd, tOr, tNot, tAndV, tOrV, tNotV, tChain, tSl, tPart, tNoPart, rI0, rI, rU, rEq, rNe, L2.start, wipe, sz0, sz1, sz2, sz3, sz4, sz5, sz6, List.map_cons, List.map_nil, List.length_cons, List.length_nil, List.cons_append, List.nil_append, List.append_nil, List.getElem?_cons_zero, List.getElem?_cons_succ, List.set_cons_zero, List.set_cons_succ, List.replicate_zero, List.replicate_succ, Option.some.injEq, V.bl.injEq, V.int.injEq, V.str.injEq, List.cons.injEq, and_true, true_and, exists_eq_left', exists_eq_left, exists_eq', exists_eq, exists_and_left, Nat.reduceSub, Nat.reduceAdd, Nat.reduceLeDiff, decide_true, decide_false, if_true, if_false, Bool.false_eq_true, reduceIte])

/-! ### what they compute -/
def atomB : NestedKey → Bool
  | .tup _ => false
  | _ => true
def rankK : NestedKey → NestedKey
  | .none => .tup [.num 0]
  | .num i => .tup [.num 1, .num i]
  | .text s => .tup [.num 2, .text s]
  | .tup _ => .none
def nums (l : List Nat) : List NestedKey := l.map fun (n : Nat) => NestedKey.num (n : Int)
structure Row where
  t : Int
  s : Int
  vs : List NestedKey
deriving DecidableEq
def Row.k (r : Row) : NestedKey := .tup [.num r.t, .num r.s, .tup r.vs]
structure Jn where
  l : List Nat
  r : List Nat
  rest : List Nat
  back : Int
  ahead : Int
def Jn.k (j : Jn) : NestedKey := .tup [.tup (nums j.l), .tup (nums j.r), .tup (nums j.rest), .num j.back, .num j.ahead]
def pickK (l : List Nat) (vs : List NestedKey) : List NestedKey := l.map fun i => vs.getD i .none
section
variable (T : List (Addr × Str))
def sp_rank : Sp := fun vs H Q _ => ∃ v d, vs = [v] ∧ Tp H v d ∧ atomB d = true ∧ ∀ v' H', Sm T H H' → Tp H' v' (rankK d) → Q v' H'
def sp_ranks : Sp := fun vs H Q _ => ∃ v ds, vs = [v] ∧ Tp H v (.tup ds) ∧ ds.all atomB = true ∧ ds.length ≤ 1000 ∧ ∀ v' H', Sm T H H' → Tp H' v' (.tup (ds.map rankK)) → Q v' H'
end
variable {P : Program} {w : World} {K : PySem.W.Frag} {mg : Str → Option Value} {base : Heap} {T : List (Addr × Str)} {f : Addr} {fd : FuncData}
abbrev N_rank : List Str := ["value"]
theorem sc_rank : FnScope N_rank ["value"] (defScope s_rank) := ⟨rfl, rfl, rfl, by decide +kernel, rfl, by decide +kernel, by decide +kernel⟩
theorem ok_rank (B : Bs mg) (hg : mg "rank" = some (.ref f)) (F : FnP K "rank" s_rank f fd) : Df P w K mg base "rank" 1 ["value"] (sp_rank T) := by
  refine df_mk hg F sc_rank (fun vs H Q E h => ?_) (
    fun _ _ _ _ _ _ us hl => match us, hl with | [_], _ => rfl
    ) (fun cdv A outer s H vs Q E hr h => ?_)
  · obtain ⟨v, d, rfl, _⟩ := h
    rfl
  · obtain ⟨v, d, rfl, hv, ha, k⟩ := h
    refine ⟨_,
      (pss_cons (ps_if (pt_cmpR op_isN (pv 0) pe_non (nomark _)) (pss_one (ps_ret (pe_tup (pa_cons pe_int pa_nil))))
    pss_nil)
    (pss_one (ps_ret (pe_ifExp (pt_val (pe_callB (isiK (K := K) rfl) (by rfl) B.isinstance_ (by decide +kernel) (pa_cons (pv 0) (pa_cons (pe_bltn (v := .ty "str") rfl B.str_ (by decide +kernel) rfl) pa_nil)))) (pe_tup (pa_cons pe_int (pa_cons (pv 0) pa_nil))) (pe_tup (pa_cons pe_int (pa_cons (pv 0) pa_nil)))))))
      , ?_⟩
    walk_at "rd"
    cases hv with
    | non =>
      refine iteT (tup_d (T := T) (Tps.cons (.int 0) .nil) fun v' H' e t => k v' H' e t)
    | int i =>
      refine iteF (isi_i (r := false) (by decide +kernel) ⟨false, rfl, iteF ?_⟩)
      exact tup_d (T := T) (Tps.cons (.int 1) (.cons (.int i) .nil)) fun v' H' e t => k v' H' e t
    | str x =>
      refine iteF (isi_s (r := true) (by decide +kernel) ⟨true, rfl, iteT ?_⟩)
      exact tup_d (T := T) (Tps.cons (.int 2) (.cons (.str x) .nil)) fun v' H' e t => k v' H' e t
    | tup _ _ => cases ha
abbrev N_ranks : List Str := ["values", "value"]
theorem sc_ranks : FnScope N_ranks ["values"] (defScope s_ranks) := ⟨rfl, rfl, rfl, by decide +kernel, rfl, by decide +kernel, by decide +kernel⟩
theorem ok_ranks (B : Bs mg) (D_rank : Df P w K mg base "rank" 1 ["value"] (sp_rank T)) (hg : mg "ranks" = some (.ref f)) (F : FnP K "ranks" s_ranks f fd) : Df P w K mg base "ranks" 2 ["values"] (sp_ranks T) := by
  refine df_mk hg F sc_ranks (fun vs H Q E h => ?_) (
    fun _ _ _ _ _ _ us hl => match us, hl with | [_], _ => rfl
    ) (fun cdv A outer s H vs Q E hr h => ?_)
  · obtain ⟨v, d, rfl, _⟩ := h
    rfl
  · obtain ⟨v, ds, rfl, hv, ha, hl, k⟩ := h
    refine ⟨_,
      (pss_one (ps_ret (pe_callTy (tupOfK (K := K) rfl) (by rfl) B.tuple_ (by decide +kernel) (pa_cons (pe_lc (own := [("value", 1)]) (by rfl) sc_ranks.nd (pi_tupK (K := K) rfl (pv 0)) (blkOk_by (N := N_ranks) (sc := defScope s_ranks) (by decide +kernel)) (fun _ _ _ _ _ => (pg_name (i := 1) sc_ranks.nd rfl (by first | exact Or.inl rfl | exact Or.inr rfl))) (fun _ _ _ _ _ => pts_nil) (fun _ _ _ _ _ => (pe_df D_rank hr (pa_cons (pv 1) pa_nil)))) pa_nil))))
      , ?_⟩
    walk_at "rd"
    refine lcT (T := T) ds id (fun _ => Tp) (fun d => some (rankK d)) (fun Q' k => ?_) (by omega) r_tp (fun D i x a H1 ha1 e tx hD Qy Qn hy hn => ?_) (fun D H1 ys e hD pr => ?_)
    · walk_at "rd"
      exact k _ _ (Sm.refl _ _) (by simpa using hv)
    · walk_at "rd"
      exact ⟨x, a, rfl, tx, List.all_eq_true.mp ha a (List.mem_of_getElem? ha1), fun v' H' e' t => hy v' _ H' rfl e' t⟩
    · exact tuple_d (T := T) hD (Tps.of pr) fun v' H' e' t => k v' H' (e.trans e') (by rw [fm_map] at t; exact t)
end K67
end
/-! ## K67D2 -/
section
set_option maxHeartbeats 4000000
namespace K67
open PySem PySem.Spec PyProof.Rows L2 LamX
local macro_rules | `(tactic| walk_at "sm") => `(tactic| first | assumption | exact Sm.refl _ _ | (refine Sm.trans ?_ (by assumption); walk_at "sm"))
local macro_rules | `(tactic| walk_at "ts") => `(tactic| first | assumption | exact TS.refl _ | (refine TS.trans ?_ (by assumption); walk_at "ts") | (refine TS.trans ?_ (Sm.ts (by assumption)); walk_at "ts"))
local macro_rules | `(tactic| walk_at "tp") => `(tactic| first | assumption | exact Tp.int _ | exact Tp.str _ | exact Tp.non | (refine Tp.ts (H := ?_) ?_ _ _ (by assumption); walk_at "ts"))
local macro_rules | `(tactic| walk_at "tps") => `(tactic| first | assumption | exact Tps.nil | (refine Tps.cons ?_ ?_; · walk_at "tp"; · walk_at "tps") | (refine Tps.ts (H := ?_) ?_ _ _ (by assumption); walk_at "ts"))
local macro_rules | `(tactic| walk_at "rd") => `(tactic| try simp only [rMax2, and_assoc, tYes, tSeq, tIfS, tRet, tNext, tTest, tB, tOp, tUn, tVar, tC, tTup, tLst, tCons, tNil, tIf, tCB, tCall, tBM, tBM0, tAsg, gName, gCons, gNil, gSub, tDrop, tPar, tPar3, tAug, tAnd, tOr, tNot, tAndV, tOrV, tNotV, tChain, tSl, tPart, tNoPart, rI0, rI, rU, rEq, rNe, L2.start, wipe, sz0, sz1, sz2, sz3, sz4, sz5, sz6, List.map_cons, List.map_nil, List.length_cons, List.length_nil, List.cons_append, List.nil_append, List.append_nil, List.getElem?_cons_zero, List.getElem?_cons_succ, List.set_cons_zero, List.set_cons_succ, List.replicate_zero, List.replicate_succ, Option.some.injEq, V.bl.injEq, V.int.injEq, V.str.injEq, List.cons.injEq, and_true, true_and, exists_eq_left', exists_eq_left, exists_eq', exists_eq, exists_and_left, Nat.reduceSub, Nat.reduceAdd, Nat.reduceLeDiff, decide_true, decide_false, if_true, if_false, Bool.false_eq_true, reduceIte])

/-! ### what they compute -/
def meetB (j : Jn) (a b : Row) : Bool := decide (pickK j.l a.vs = pickK j.r b.vs) && (decide (a.t - j.back ≤ b.t) && decide (b.t ≤ a.t + j.ahead))
def pairR (j : Jn) (a b : Row) : Row := ⟨max a.t b.t, a.s * b.s, a.vs ++ pickK j.rest b.vs⟩
def Row.ok (r : Row) : Prop := r.vs.all atomB = true ∧ r.vs.length ≤ 100 ∧ (r.s = 1 ∨ r.s = -1)
structure Jn.ok (j : Jn) (a b : Row) : Prop where
  l : ∀ i ∈ j.l, i < a.vs.length
  r : ∀ i ∈ j.r, i < b.vs.length
  rest : ∀ i ∈ j.rest, i < b.vs.length
  ll : j.l.length ≤ 100
  lr : j.r.length ≤ 100
  lt : j.rest.length ≤ 100
theorem pick_len (l : List Nat) (vs : List NestedKey) : (pickK l vs).length = l.length := by unfold pickK; rw [List.length_map]
theorem depth_atom {d : NestedKey} (h : atomB d = true) : d.depth = 0 := by
  cases d with
  | tup _ => cases h
  | _ => rfl
theorem depth_atoms : ∀ {ds : List NestedKey}, ds.all atomB = true → NestedKey.depthAll ds = 0
  | [], _ => rfl
  | d :: ds, h => by
    rw [List.all_cons, Bool.and_eq_true] at h
    show max d.depth (NestedKey.depthAll ds) = 0
    rw [depth_atom h.1, depth_atoms h.2]
    rfl
theorem pick_atoms {l : List Nat} {vs : List NestedKey} (h : vs.all atomB = true) : (pickK l vs).all atomB = true := by
  rw [List.all_eq_true] at h ⊢
  intro d hd
  obtain ⟨i, _, rfl⟩ := List.mem_map.mp hd
  by_cases hi : i < vs.length
  · rw [List.getD_eq_getElem?_getD, List.getElem?_eq_getElem hi]
    exact h _ (List.getElem_mem hi)
  · rw [List.getD_eq_getElem?_getD, List.getElem?_eq_none (by omega)]
    rfl
section
variable (T : List (Addr × Str))
def sp_key_of : Sp := fun vs H Q _ => ∃ (vj vv : V) (l : List Nat) (j : List NestedKey) (side : Nat) (ds : List NestedKey), vs = [vj, .int (side : Int), vv] ∧ Tp H vj (.tup j) ∧ j[side]? = some (.tup (nums l)) ∧ Tp H vv (.tup ds) ∧ (∀ i ∈ l, i < ds.length) ∧ l.length ≤ 1000 ∧
  ∀ v' H', Sm T H H' → Tp H' v' (.tup (pickK l ds)) → Q v' H'
def sp_do_meet : Sp := fun vs H Q _ => ∃ (vj v1 v2 : V) (j : Jn) (a b : Row), vs = [vj, v1, v2] ∧ Tp H vj j.k ∧ Tp H v1 a.k ∧ Tp H v2 b.k ∧ j.ok a b ∧ a.ok ∧ b.ok ∧ ∀ H', Sm T H H' → Q (.bl (meetB j a b)) H'
def sp_pair : Sp := fun vs H Q _ => ∃ (vj v1 v2 : V) (j : Jn) (a b : Row), vs = [vj, v1, v2] ∧ Tp H vj j.k ∧ Tp H v1 a.k ∧ Tp H v2 b.k ∧ j.ok a b ∧ a.ok ∧ b.ok ∧ ∀ v' H', Sm T H H' → Tp H' v' (pairR j a b).k → Q v' H'
def givenK (r : Row) : NestedKey := .tup [.num r.t, .num r.s, .tup (r.vs.map rankK)]
def sp_given : Sp := fun vs H Q _ => ∃ (v : V) (r : Row), vs = [v] ∧ Tp H v r.k ∧ r.ok ∧ ∀ v' H', Sm T H H' → Tp H' v' (givenK r) → Q v' H'
def keptK (l : List Nat) (r : Row) : NestedKey := .tup [.tup ((pickK l r.vs).map rankK), .num r.t, .num r.s, .tup (r.vs.map rankK)]
def sp_kept_rank : Sp := fun vs H Q _ => ∃ (vj v : V) (l : List Nat) (j : List NestedKey) (side : Nat) (r : Row), vs = [vj, .int (side : Int), v] ∧ Tp H vj (.tup j) ∧ j[side]? = some (.tup (nums l)) ∧ Tp H v r.k ∧ r.ok ∧ (∀ i ∈ l, i < r.vs.length) ∧ l.length ≤ 100 ∧
  ∀ v' H', Sm T H H' → Tp H' v' (keptK l r) → Q v' H'
end
variable {P : Program} {w : World} {K : PySem.W.Frag} {mg : Str → Option Value} {base : Heap} {T : List (Addr × Str)} {f : Addr} {fd : FuncData}
abbrev N_key_of : List Str := ["join", "side", "values", "place"]
theorem sc_key_of : FnScope N_key_of ["join", "side", "values"] (defScope s_key_of) := ⟨rfl, rfl, rfl, by decide +kernel, rfl, by decide +kernel, by decide +kernel⟩
theorem ok_key_of (B : Bs mg) (hg : mg "key_of" = some (.ref f)) (F : FnP K "key_of" s_key_of f fd) : Df P w K mg base "key_of" 1 ["join", "side", "values"] (sp_key_of T) := by
  refine df_mk hg F sc_key_of (fun vs H Q E h => ?_) (
    fun _ _ _ _ _ _ us hl => match us, hl with | [_, _, _], _ => rfl
    ) (fun cdv A outer s H vs Q E hr h => ?_)
  · obtain ⟨_, _, _, _, _, _, rfl, _⟩ := h
    rfl
  · obtain ⟨vj, vv, l, j, side, ds, rfl, hj, hs, hv, hi, hl, k⟩ := h
    refine ⟨_,
      (pss_one (ps_ret (pe_callTy (tupOfK (K := K) rfl) (by rfl) B.tuple_ (by decide +kernel) (pa_cons (pe_lc (own := [("place", 3)]) (by rfl) sc_key_of.nd (pi_tupK (K := K) rfl (pe_ix (ix_tupK (K := K) rfl) (pv 0) (pv 1) (fun _ _ => rfl))) (blkOk_by (N := N_key_of) (sc := defScope s_key_of) (by decide +kernel)) (fun _ _ _ _ _ => (pg_name (i := 3) sc_key_of.nd rfl (by first | exact Or.inl rfl | exact Or.inr rfl))) (fun _ _ _ _ _ => pts_nil) (fun _ _ _ _ _ => (pe_ix (ix_tupK (K := K) rfl) (pv 2) (pv 3) (fun _ _ => rfl)))) pa_nil))))
      , ?_⟩
    walk_at "rd"
    refine lcT (T := T) l (fun (i : Nat) => NestedKey.num (i : Int)) (fun _ => Tp) (fun i => some (ds.getD i .none)) (fun Q' k => ?_) (by omega) r_tp (fun D i x a H1 ha1 e tx hD Qy Qn hy hn => ?_) (fun D H1 ys e hD pr => ?_)
    · walk_at "rd"
      exact ix_d hj hs fun v tv => k v H (Sm.refl _ _) tv
    · walk_at "rd"
      obtain rfl := tx.num_inv
      have ha := hi a (List.mem_of_getElem? ha1)
      exact ix_d (d := ds.getD a .none) (Tp.ts e.ts _ _ hv) (by rw [List.getD_eq_getElem?_getD, List.getElem?_eq_getElem ha]; rfl) fun v tv => hy v _ H1 rfl (Sm.refl _ _) tv
    · exact tuple_d (T := T) hD (Tps.of pr) fun v' H' e' t => k v' H' (e.trans e') (by rw [fm_map] at t; exact t)
abbrev N_do_meet : List Str := ["join", "one", "other"]
theorem sc_do_meet : FnScope N_do_meet ["join", "one", "other"] (defScope s_do_meet) := ⟨rfl, rfl, rfl, by decide +kernel, rfl, by decide +kernel, by decide +kernel⟩
theorem ok_do_meet (B : Bs mg) (D_key_of : Df P w K mg base "key_of" 1 ["join", "side", "values"] (sp_key_of T)) (hg : mg "do_meet" = some (.ref f)) (F : FnP K "do_meet" s_do_meet f fd) : Df P w K mg base "do_meet" 2 ["join", "one", "other"] (sp_do_meet T) := by
  refine df_mk hg F sc_do_meet (fun vs H Q E h => ?_) (
    fun _ _ _ _ _ _ us hl => match us, hl with | [_, _, _], _ => rfl
    ) (fun cdv A outer s H vs Q E hr h => ?_)
  · obtain ⟨_, _, _, _, _, _, rfl, _⟩ := h
    rfl
  · obtain ⟨vj, v1, v2, j, a, b, rfl, hj, h1, h2, ok, oa, ob, k⟩ := h
    refine ⟨_,
      (pss_cons (ps_if (pt_cmpR (op_neK hr.units) (pe_df D_key_of hr (pa_cons (pv 0) (pa_cons pe_int (pa_cons (pe_ix (ix_tupK (K := K) rfl) (pv 1) pe_int (fun _ _ => rfl)) pa_nil)))) (pe_df D_key_of hr (pa_cons (pv 0) (pa_cons pe_int (pa_cons (pe_ix (ix_tupK (K := K) rfl) (pv 2) pe_int (fun _ _ => rfl)) pa_nil)))) (nomark _)) (pss_one (ps_ret pe_bl))
    pss_nil)
    (pss_one (ps_ret (pe_chain op_le op_le (pe_op op_sub (pe_ix (ix_tupK (K := K) rfl) (pv 1) pe_int (fun _ _ => rfl)) (pe_ix (ix_tupK (K := K) rfl) (pv 0) pe_int (fun _ _ => rfl))) (pe_ix (ix_tupK (K := K) rfl) (pv 2) pe_int (fun _ _ => rfl)) (pe_op op_add (pe_ix (ix_tupK (K := K) rfl) (pv 1) pe_int (fun _ _ => rfl)) (pe_ix (ix_tupK (K := K) rfl) (pv 0) pe_int (fun _ _ => rfl)))))))
      , ?_⟩
    walk_at "rd"
    refine ix_d (i := 2) h1 rfl fun x1 t1 => ?_
    refine ⟨vj, x1, j.l, _, 0, _, rfl, hj, rfl, t1, ok.l, by have := ok.ll; omega, fun y1 H1 e1 u1 => ?_⟩
    refine ix_d (i := 2) (Tp.ts e1.ts _ _ h2) rfl fun x2 t2 => ?_
    refine ⟨vj, x2, j.r, _, 1, _, rfl, Tp.ts e1.ts _ _ hj, rfl, t2, ok.r, by have := ok.lr; omega, fun y2 H2 e2 u2 => ?_⟩
    refine ⟨_, _, Tp.ts e2.ts _ _ u1, u2, by rw [depth_atoms (pick_atoms oa.1)]; decide, ?_⟩
    walk_at "rd"
    by_cases hk : pickK j.l a.vs = pickK j.r b.vs
    · rw [decide_eq_true hk]
      refine iteF ?_
      have e := e1.trans e2
      have h1' := Tp.ts e.ts _ _ h1
      have h2' := Tp.ts e.ts _ _ h2
      have hj' := Tp.ts e.ts _ _ hj
      refine ix_d (i := 0) h1' rfl fun x t => ?_
      obtain rfl := t.num_inv
      refine ix_d (i := 3) hj' rfl fun x t => ?_
      obtain rfl := t.num_inv
      walk_at "rd"
      refine ix_d (i := 0) h2' rfl fun x t => ?_
      obtain rfl := t.num_inv
      walk_at "rd"
      refine ite2 (fun c1 => ?_) (fun c1 => ?_)
      · refine ix_d (i := 0) h1' rfl fun x t => ?_
        obtain rfl := t.num_inv
        refine ix_d (i := 4) hj' rfl fun x t => ?_
        obtain rfl := t.num_inv
        walk_at "rd"
        have q := k H2 e
        unfold meetB at q
        rw [decide_eq_true hk, c1] at q
        simpa using q
      · have q := k H2 e
        unfold meetB at q
        rw [decide_eq_true hk, (by simpa using c1 : decide (a.t - j.back ≤ b.t) = false)] at q
        simpa using q
    · rw [decide_eq_false hk]
      refine iteT ?_
      have q := k H2 (e1.trans e2)
      unfold meetB at q
      rw [decide_eq_false hk] at q
      simpa using q
abbrev N_pair : List Str := ["join", "one", "other", "rest", "place"]
theorem sc_pair : FnScope N_pair ["join", "one", "other"] (defScope s_pair) := ⟨rfl, rfl, rfl, by decide +kernel, rfl, by decide +kernel, by decide +kernel⟩
theorem ok_pair (B : Bs mg) (hg : mg "pair" = some (.ref f)) (F : FnP K "pair" s_pair f fd) : Df P w K mg base "pair" 1 ["join", "one", "other"] (sp_pair T) := by
  refine df_mk hg F sc_pair (fun vs H Q E h => ?_) (
    fun _ _ _ _ _ _ us hl => match us, hl with | [_, _, _], _ => rfl
    ) (fun cdv A outer s H vs Q E hr h => ?_)
  · obtain ⟨_, _, _, _, _, _, rfl, _⟩ := h
    rfl
  · obtain ⟨vj, v1, v2, j, a, b, rfl, hj, h1, h2, ok, oa, ob, k⟩ := h
    refine ⟨_,
      (pss_cons (ps_set (i := 3) sc_pair.nd rfl (by first | exact Or.inl rfl | exact Or.inr rfl) (pe_callTy (tupOfK (K := K) rfl) (by rfl) B.tuple_ (by decide +kernel) (pa_cons (pe_lc (own := [("place", 4)]) (by rfl) sc_pair.nd (pi_tupK (K := K) rfl (pe_ix (ix_tupK (K := K) rfl) (pv 0) pe_int (fun _ _ => rfl))) (blkOk_by (N := N_pair) (sc := defScope s_pair) (by decide +kernel)) (fun _ _ _ _ _ => (pg_name (i := 4) sc_pair.nd rfl (by first | exact Or.inl rfl | exact Or.inr rfl))) (fun _ _ _ _ _ => pts_nil) (fun _ _ _ _ _ => (pe_ix (ix_tupK (K := K) rfl) (pe_ix (ix_tupK (K := K) rfl) (pv 2) pe_int (fun _ _ => rfl)) (pv 4) (fun _ _ => rfl)))) pa_nil)))
    (pss_one (ps_ret (pe_tup (pa_cons (pe_callB (call_maxK rfl) (by rfl) B.max_ (by decide +kernel) (pa_cons (pe_ix (ix_tupK (K := K) rfl) (pv 1) pe_int (fun _ _ => rfl)) (pa_cons (pe_ix (ix_tupK (K := K) rfl) (pv 2) pe_int (fun _ _ => rfl)) pa_nil))) (pa_cons (pe_op op_mul (pe_ix (ix_tupK (K := K) rfl) (pv 1) pe_int (fun _ _ => rfl)) (pe_ix (ix_tupK (K := K) rfl) (pv 2) pe_int (fun _ _ => rfl))) (pa_cons (pe_op (op_catK (K := K) rfl) (pe_ix (ix_tupK (K := K) rfl) (pv 1) pe_int (fun _ _ => rfl)) (pv 3)) pa_nil)))))))
      , ?_⟩
    walk_at "rd"
    refine lcT (T := T) j.rest (fun (i : Nat) => NestedKey.num (i : Int)) (fun _ => Tp) (fun i => some (b.vs.getD i .none)) (fun Q' k => ?_) (by have := ok.lt; omega) r_tp (fun D i x c H1 ha1 e tx hD Qy Qn hy hn => ?_) (fun D H1 ys e hD pr => ?_)
    · walk_at "rd"
      exact ix_d (i := 2) hj rfl fun v tv => k v H (Sm.refl _ _) tv
    · walk_at "rd"
      obtain rfl := tx.num_inv
      have ha := ok.rest c (List.mem_of_getElem? ha1)
      refine ix_d (i := 2) (Tp.ts e.ts _ _ h2) rfl fun v tv => ?_
      exact ix_d (d := b.vs.getD c .none) tv (by rw [List.getD_eq_getElem?_getD, List.getElem?_eq_getElem ha]; rfl) fun v tv => hy v _ H1 rfl (Sm.refl _ _) tv
    · refine tuple_d (T := T) hD (Tps.of pr) fun v' H2 e' tR => ?_
      rw [fm_map] at tR
      have e2 := e.trans e'
      have h1' := Tp.ts e2.ts _ _ h1
      have h2' := Tp.ts e2.ts _ _ h2
      walk_at "rd"
      refine ix_d (i := 0) h1' rfl fun x t => ?_
      obtain rfl := t.num_inv
      refine ix_d (i := 0) h2' rfl fun x t => ?_
      obtain rfl := t.num_inv
      walk_at "rd"
      refine ix_d (i := 1) h1' rfl fun x t => ?_
      obtain rfl := t.num_inv
      refine ix_d (i := 1) h2' rfl fun x t => ?_
      obtain rfl := t.num_inv
      walk_at "rd"
      refine ⟨.inl (by rcases oa.2.2 with z | z <;> rw [z] <;> decide), ?_⟩
      refine ix_d (i := 2) h1' rfl fun x t1 => ?_
      refine cat_d (T := T) t1 tR (by rw [List.length_map]; have := oa.2.1; have := ok.lt; omega) fun v3 H3 e3 t3 => ?_
      refine tup_d (T := T) (Tps.cons (.int _) (.cons (.int _) (.cons t3 .nil))) fun v4 H4 e4 t4 => ?_
      exact k v4 H4 ((e2.trans e3).trans e4) t4
abbrev N_given_rank : List Str := ["row"]
theorem sc_given_rank : FnScope N_given_rank ["row"] (defScope s_given_rank) := ⟨rfl, rfl, rfl, by decide +kernel, rfl, by decide +kernel, by decide +kernel⟩
theorem ok_given_rank (B : Bs mg) (D_ranks : Df P w K mg base "ranks" 2 ["values"] (sp_ranks T)) (hg : mg "given_rank" = some (.ref f)) (F : FnP K "given_rank" s_given_rank f fd) : Df P w K mg base "given_rank" 3 ["row"] (sp_given T) := by
  refine df_mk hg F sc_given_rank (fun vs H Q E h => ?_) (
    fun _ _ _ _ _ _ us hl => match us, hl with | [_], _ => rfl
    ) (fun cdv A outer s H vs Q E hr h => ?_)
  · obtain ⟨_, _, rfl, _⟩ := h
    rfl
  · obtain ⟨v, r, rfl, hv, ok, k⟩ := h
    refine ⟨_,
      (pss_one (ps_ret (pe_tup (pa_cons (pe_ix (ix_tupK (K := K) rfl) (pv 0) pe_int (fun _ _ => rfl)) (pa_cons (pe_ix (ix_tupK (K := K) rfl) (pv 0) pe_int (fun _ _ => rfl)) (pa_cons (pe_df D_ranks hr (pa_cons (pe_ix (ix_tupK (K := K) rfl) (pv 0) pe_int (fun _ _ => rfl)) pa_nil)) pa_nil))))))
      , ?_⟩
    walk_at "rd"
    refine ix_d (i := 0) hv rfl fun x t => ?_
    obtain rfl := t.num_inv
    refine ix_d (i := 1) hv rfl fun x t => ?_
    obtain rfl := t.num_inv
    refine ix_d (i := 2) hv rfl fun x t => ?_
    walk_at "rd"
    refine ⟨_, _, rfl, t, ok.1, by have := ok.2.1; omega, fun v2 H2 e2 t2 => ?_⟩
    walk_at "rd"
    exact tup_d (T := T) (Tps.cons (.int _) (.cons (.int _) (.cons t2 .nil))) fun v4 H4 e4 t4 => k v4 H4 (e2.trans e4) t4
abbrev N_kept_rank : List Str := ["join", "side", "row"]
theorem sc_kept_rank : FnScope N_kept_rank ["join", "side", "row"] (defScope s_kept_rank) := ⟨rfl, rfl, rfl, by decide +kernel, rfl, by decide +kernel, by decide +kernel⟩
theorem ok_kept_rank (B : Bs mg) (D_key_of : Df P w K mg base "key_of" 1 ["join", "side", "values"] (sp_key_of T)) (D_ranks : Df P w K mg base "ranks" 2 ["values"] (sp_ranks T)) (hg : mg "kept_rank" = some (.ref f)) (F : FnP K "kept_rank" s_kept_rank f fd) : Df P w K mg base "kept_rank" 3 ["join", "side", "row"] (sp_kept_rank T) := by
  refine df_mk hg F sc_kept_rank (fun vs H Q E h => ?_) (
    fun _ _ _ _ _ _ us hl => match us, hl with | [_, _, _], _ => rfl
    ) (fun cdv A outer s H vs Q E hr h => ?_)
  · obtain ⟨_, _, _, _, _, _, rfl, _⟩ := h
    rfl
  · obtain ⟨vj, v, l, j, side, r, rfl, hj, hs, hv, ok, hi, hl, k⟩ := h
    refine ⟨_,
      (pss_one (ps_ret (pe_tup (pa_cons (pe_df D_ranks hr (pa_cons (pe_df D_key_of hr (pa_cons (pv 0) (pa_cons (pv 1) (pa_cons (pe_ix (ix_tupK (K := K) rfl) (pv 2) pe_int (fun _ _ => rfl)) pa_nil)))) pa_nil)) (pa_cons (pe_ix (ix_tupK (K := K) rfl) (pv 2) pe_int (fun _ _ => rfl)) (pa_cons (pe_ix (ix_tupK (K := K) rfl) (pv 2) pe_int (fun _ _ => rfl)) (pa_cons (pe_df D_ranks hr (pa_cons (pe_ix (ix_tupK (K := K) rfl) (pv 2) pe_int (fun _ _ => rfl)) pa_nil)) pa_nil)))))))
      , ?_⟩
    walk_at "rd"
    refine ix_d (i := 2) hv rfl fun x t => ?_
    refine ⟨_, _, l, j, side, _, rfl, hj, hs, t, hi, by omega, fun v1 H1 e1 t1 => ?_⟩
    walk_at "rd"
    refine ⟨_, _, rfl, t1, pick_atoms ok.1, by rw [pick_len]; omega, fun v2 H2 e2 t2 => ?_⟩
    walk_at "rd"
    have e := e1.trans e2
    have hv' := Tp.ts e.ts _ _ hv
    refine ix_d (i := 0) hv' rfl fun x t => ?_
    obtain rfl := t.num_inv
    refine ix_d (i := 1) hv' rfl fun x t => ?_
    obtain rfl := t.num_inv
    refine ix_d (i := 2) hv' rfl fun x t => ?_
    walk_at "rd"
    refine ⟨_, _, rfl, t, ok.1, by have := ok.2.1; omega, fun v3 H3 e3 t3 => ?_⟩
    walk_at "rd"
    exact tup_d (T := T) (Tps.cons (Tp.ts e3.ts _ _ t2) (.cons (.int _) (.cons (.int _) (.cons t3 .nil)))) fun v4 H4 e4 t4 => k v4 H4 ((e.trans e3).trans e4) t4
end K67
end
/-! ## K67Ne -/
section
set_option maxHeartbeats 4000000
/-! K67Ne: two dicts with the same content are not unequal; two lists of such dicts neither -/
namespace K67
open PySem PySem.Spec PyProof.Rows L2 LamX SeqAt
open AutoSeq1 (wpAny_loadPart')
open MeetsSeq MeetsSeq2 MeetsSeq3 SeqRoads2
section
variable {prog : Program} {w : World} {A : Around} {E : Value → Shared → Prop} {s : Shared}
/-- every entry of the one stands in the other -/
theorem same_pairs {nm : String} {a b : Addr} {xs ys : List (NestedKey × Addr × Value)} {Q : Bool → Shared → Prop} (ha : (a == sysModules) = false) (hb : (b == sysModules) = false)
    (da : s.heap.DictOfH (nestedKind prog w) a xs) (db : s.heap.DictOfH (nestedKind prog w) b ys) (hu : (nestedKind prog w).room A) (hl : xs.length = ys.length)
    (hits : ∀ x ∈ xs, ∃ p, atKey ys x.1 = some p ∧ EqAt A s x.2.2 p.2 true) (h : Q true s) :
    wpAny (model prog w) A (Builtin.Dict.samePairs nm a b) Q E s := by
  obtain ⟨oa, es, ep, hoa, _, hda, hka, hpa, hna⟩ := da
  obtain ⟨ob, es', ep', hob, _, hdb, hkb, hpb, hnb⟩ := db
  have hla : es.size = xs.length := size_of_entries hka
  have hlb : es'.size = ys.length := size_of_entries hkb
  unfold Builtin.Dict.samePairs Builtin.Dict.showsAll
  rw [if_neg (show ¬ (a == sysModules) = true by rw [ha]; exact Bool.false_ne_true), if_neg (show ¬ (b == sysModules) = true by rw [hb]; exact Bool.false_ne_true)]
  refine wpAny_bind (wpAny_pure (wpAny_bind (wpAny_pure ?_)))
  refine wpAny_bind (wpAny_dictEntries hoa hda ?_)
  dsimp only
  refine wpAny_bind (wpAny_dictEntries hob hdb ?_)
  have hsz : es.size = es'.size := by omega
  rw [if_neg (by rw [hsz]; simp)]
  refine wpAny_bind (wpAny_dictEpoch hoa hda ?_)
  refine wpAny_bind ?_
  rw [Std.Legacy.Range.forIn_eq_forIn_range']
  simp only [Std.Legacy.Range.size, Nat.sub_zero, Nat.add_sub_cancel, Nat.div_one]
  refine wpAny_forIn_list _
    (fun rest q s' => s' = s ∧ q = (none, ()) ∧ ∃ i, rest = List.range' i (es.size - i) ∧ i ≤ es.size)
    _ ?_ ?_ _ _ ⟨rfl, rfl, 0, by simp, Nat.zero_le _⟩
  · rintro x rest q s' ⟨rfl, rfl, i, hr, hi⟩
    have hlt : i < es.size := by
      rcases Nat.lt_or_ge i es.size with h | h
      · exact h
      · rw [Nat.sub_eq_zero_of_le h] at hr; simp at hr
    obtain ⟨rfl, hrest⟩ : x = i ∧ rest = List.range' (i + 1) (es.size - (i + 1)) := by
      have e : es.size - i = (es.size - (i + 1)) + 1 := by omega
      rw [e, List.range'_succ] at hr
      injection hr with h1 h2
      exact ⟨h1, h2⟩
    refine wpAny_bind (wpAny_dictEntries hoa hda ?_)
    have hlt' : x < xs.length := by omega
    rw [entry_at hka x, List.getElem?_eq_getElem hlt']
    obtain ⟨p, hp, he⟩ := hits xs[x] (List.getElem_mem hlt')
    have hkey := hpa xs[x] (List.getElem_mem hlt')
    show wpAny _ _ (holding [Value.ref xs[x].2.1, xs[x].2.2] _ >>= _) _ _ _
    refine wpAny_bind (wpAny_holding (wpAny_bind (wpAny_dictFind_heap hu hkey hob hdb hkb hpb hnb ?_ ?_)))
    · intro hno
      rw [atKey_none_of_get hno] at hp
      cases hp
    · intro j p' hj
      have ep : p' = p := Option.some.inj ((atKey_of_get hnb hj).symm.trans hp)
      subst ep
      refine wpAny_bind (wpAny_dictEntries hob hdb ?_)
      rw [entry_at hkb j, hj]
      refine wpAny_holding (he _ _ _ _ ?_)
      show wpAny _ _ (if (!true) = true then _ else _) _ _ _
      rw [if_neg (by decide)]
      refine wpAny_bind (wpAny_dictEpoch hoa hda ?_)
      rw [if_neg (by simp)]
      exact wpAny_pure ⟨rfl, rfl, x + 1, hrest, hlt⟩
  · rintro q s' ⟨rfl, rfl, i, hr, hi⟩
    exact wpAny_pure h
theorem n_eq {a b : Addr} {xs ys : List (NestedKey × Addr × Value)} {Q : Value → Shared → Prop} (ha : (a == sysModules) = false) (hb : (b == sysModules) = false)
    (da : s.heap.DictOfH (nestedKind prog w) a xs) (db : s.heap.DictOfH (nestedKind prog w) b ys) (hu : A.units + 1 + 8 < cLine) (hl : xs.length = ys.length)
    (hits : ∀ x ∈ xs, ∃ p, atKey ys x.1 = some p ∧ EqAt A.in1 s x.2.2 p.2 true) (h : Q (.bool true) s) : wpAny (model prog w) A (richCompare .Eq (.ref a) (.ref b)) Q E s := by
  refine wpAny_richCompare_same_room (op := .Eq) da.typeIs db.typeIs PySem.F.slot_dict_eq (wpAny_call_entry PySem.F.slot_dict_eq da.typeIs PySem.F.entry_dict_eq ?_ (PySem.F.args_dict_eq_2 _ _)) (by omega)
  show wpAny _ _ (Builtin.Dict.dictSlotArgs "__eq__" ⟨[.ref a, .ref b], []⟩ >>= _) _ _ s
  refine wpAny_bind ?_
  unfold Builtin.Dict.dictSlotArgs
  refine wpAny_bind (wpAny_notOrdered_dict da.typeIs ?_)
  show wpAny _ _ (pure (Value.ref a, Value.ref b)) _ _ s
  refine wpAny_pure ?_
  refine wpAny_bind (wpAny_isInstance (T := "dict") db.typeIs PySem.F.sub_dict_dict ?_)
  simp only [Bool.not_true, Bool.false_eq_true, if_false]
  refine wpAny_bind (wpAny_pure (wpAny_bind (wpAny_pure ?_)))
  refine wpAny_bind (same_pairs ha hb da db hu hl hits ?_)
  refine wpAny_pure ⟨_, rfl, ?_, ?_⟩
  · exact fun x => nomatch x
  · simpa using h
theorem n_ne {a b : Addr} {xs ys : List (NestedKey × Addr × Value)} {Q : Value → Shared → Prop} (ha : (a == sysModules) = false) (hb : (b == sysModules) = false)
    (da : s.heap.DictOfH (nestedKind prog w) a xs) (db : s.heap.DictOfH (nestedKind prog w) b ys) (hu : A.units + 1 + 8 < cLine) (hl : xs.length = ys.length)
    (hits : ∀ x ∈ xs, ∃ p, atKey ys x.1 = some p ∧ EqAt A.in1 s x.2.2 p.2 true) (h : Q (.bool false) s) : wpAny (model prog w) A (richCompare .NotEq (.ref a) (.ref b)) Q E s := by
  refine wpAny_richCompare_same_room (op := .NotEq) da.typeIs db.typeIs PySem.F.slot_dict_ne (wpAny_call_entry PySem.F.slot_dict_ne da.typeIs PySem.F.entry_dict_ne ?_ (PySem.F.args_dict_ne_2 _ _)) (by omega)
  show wpAny _ _ (Builtin.Dict.dictSlotArgs "__ne__" ⟨[.ref a, .ref b], []⟩ >>= _) _ _ s
  refine wpAny_bind ?_
  unfold Builtin.Dict.dictSlotArgs
  refine wpAny_bind (wpAny_notOrdered_dict da.typeIs ?_)
  show wpAny _ _ (pure (Value.ref a, Value.ref b)) _ _ s
  refine wpAny_pure ?_
  refine wpAny_bind (wpAny_isInstance (T := "dict") db.typeIs PySem.F.sub_dict_dict ?_)
  simp only [Bool.not_true, Bool.false_eq_true, if_false]
  refine wpAny_bind (wpAny_pure (wpAny_bind (wpAny_pure ?_)))
  refine wpAny_bind (same_pairs ha hb da db hu hl hits ?_)
  refine wpAny_pure ⟨_, rfl, ?_, ?_⟩
  · exact fun x => nomatch x
  · simpa using h
/-! lists, told in one world -/
theorem ne_loopIn (l b : Addr) (items items2 : Array Value) (n n2 : Nat) (dd dd2 : Option Addr) (sl sl2 : Array (Option Value)) (hsz : items.size = items2.size) (k : Nat) :
    ∀ i : Nat, items.size - i = k → MeetsIn prog w (Builtin.«list.__eq__.loop» ⟨[.ref l, .ref b, rawInt i, rawInt 3], []⟩)
      (fun A R s => s.heap.get? l = some { cls := .type "list", dict := dd, data := .seq items n, slots := sl } ∧ s.heap.get? b = some { cls := .type "list", dict := dd2, data := .seq items2 n2, slots := sl2 } ∧
        (∀ j (h1 : j < items.size) (h2 : j < items2.size), EqIn prog w A.in1 s items[j] items2[j] true) ∧
        R (.ok (.ret (.bool false))) s) := by
  induction k with
  | zero =>
    intro i hk A R s h
    obtain ⟨hp, g, d, tk, os⟩ := s; obtain ⟨hl, hb, he, h⟩ := h
    wp_walk using wpAny_loadPart' hl, wpAny_loadPart' hb
    have hi1 : items[((i : Nat) : Int).toNat]? = none := by simp; omega
    have hi2 : items2[((i : Nat) : Int).toNat]? = none := by simp; omega
    rw [hi1, hi2]
    wp_walk using wpAny_loadPart' hl, wpAny_loadPart' hb
    show R (.ok (.ret (.bool (items.size != items2.size)))) _
    rw [hsz]
    simpa using h
  | succ k ih =>
    intro i hk A R s h
    obtain ⟨hp, g, d, tk, os⟩ := s; obtain ⟨hl, hb, he, h⟩ := h
    wp_walk using wpAny_loadPart' hl, wpAny_loadPart' hb
    have hlt : i < items.size := by omega
    have hlt2 : i < items2.size := by omega
    have hi1 : items[((i : Nat) : Int).toNat]? = some items[i] := by simp [hlt]
    have hi2 : items2[((i : Nat) : Int).toNat]? = some items2[i] := by simp [hlt2]
    have hc : ((i : Int) + 1) = ((i + 1 : Nat) : Int) := by push_cast; rfl
    rw [hi1, hi2]
    refine wpAny_bind (he i hlt hlt2 _ _ ?_)
    wp_walk
    rw [hc]
    exact ⟨plainId_quiet plain_eq_loop _, codeAny_builtin entry_eq_loop (by
      rw [Around.under_plainId plain_eq_loop _]
      exact ih (i + 1) (by omega) A R _ ⟨hl, hb, he, h⟩)⟩
theorem list_neIn (l b : Addr) (items items2 : Array Value) (n n2 : Nat) (dd dd2 : Option Addr) (sl sl2 : Array (Option Value)) (hsz : items.size = items2.size) :
    MeetsIn prog w (Builtin.«list.__ne__» ⟨[.ref l, .ref b], []⟩)
      (fun A R s => s.heap.get? l = some { cls := .type "list", dict := dd, data := .seq items n, slots := sl } ∧ s.heap.get? b = some { cls := .type "list", dict := dd2, data := .seq items2 n2, slots := sl2 } ∧
        (∀ j (h1 : j < items.size) (h2 : j < items2.size), EqIn prog w A.in1 s items[j] items2[j] true) ∧
        R (.ok (.ret (.bool false))) s) := by
  intro A R s h
  obtain ⟨hp, g, d, tk, os⟩ := s; obtain ⟨hl, hb, he, h⟩ := h
  have f3 := AutoSeq1.sub_list_list
  have hne : ¬ (items.size != items2.size) = true := by simp [hsz]
  wp_walk using wpAny_loadPart' hl, wpAny_loadPart' hb
  exact ⟨plainId_quiet plain_eq_loop _, codeAny_builtin entry_eq_loop (by
    rw [Around.under_plainId plain_eq_loop _]
    exact ne_loopIn l b items items2 n n2 dd dd2 sl sl2 hsz _ 0 rfl A R _ ⟨hl, hb, he, h⟩)⟩
theorem ne_lists_eq {l b : Addr} {items items2 : Array Value} {Q : Value → Shared → Prop} (hl : s.heap.IsList l items) (hb : s.heap.IsList b items2) (hsz : items.size = items2.size) (hu : A.units < cLine)
    (he : ∀ j (h1 : j < items.size) (h2 : j < items2.size), EqIn prog w A.in1 s items[j] items2[j] true) (h : Q (.bool false) s) : wpAny (model prog w) A (richCompare .NotEq (.ref l) (.ref b)) Q E s := by
  obtain ⟨⟨cls, dd, data, sl⟩, ho, hc, n, hd⟩ := id hl
  obtain ⟨⟨cls2, dd2, data2, sl2⟩, ho2, hc2, n2, hd2⟩ := id hb
  simp only at hc hd hc2 hd2
  subst hc hd hc2 hd2
  exact wpAny_richCompare_same_room (T := "list") (op := .NotEq) ⟨_, ho, rfl⟩ ⟨_, ho2, rfl⟩ F.slot_list_ne (call_meetsIn F.slot_list_ne ⟨_, ho, rfl⟩ F.entry_list_ne (F.args_list_ne_2 _ _) (list_neIn l b items items2 n n2 dd dd2 sl sl2 hsz)
    ⟨ho, ho2, he, show Value.bool false ≠ Value.notImplemented ∧ Q (.bool false) s from ⟨(fun x => nomatch x), h⟩⟩) hu
end
/-! ### the layer's words -/
/-- the same keys with the same flat values -/
def SameK (ks ls : List (NestedKey × V)) : Prop := ks.length = ls.length ∧ ∀ p ∈ ks, valV ls p.1 = some p.2 ∧ flatB p.2 = true
section
variable {X : Cx} {pins : List (Addr × Obj)} {σ : L2.St} {H : Hp} {s : Shared}
theorem hits_n {A : Around} {s : Shared} {es es' : List Ent} {xs ys : List (NestedKey × Addr × Value)} (rb : Paired EntR es' ys) (hp : ∀ p ∈ kvsOf es, valV (kvsOf es') p.1 = some p.2 ∧ flatB p.2 = true) (ra : Paired EntR es xs) :
    ∀ x ∈ xs, ∃ p, atKey ys x.1 = some p ∧ EqAt A s x.2.2 p.2 true := by
  induction ra with
  | nil => intro x hx; cases hx
  | @cons e x es xs r t ih =>
    intro y hy
    rcases List.mem_cons.mp hy with rfl | hy
    · obtain ⟨e1, f⟩ := hp (e.1, e.2.2) List.mem_cons_self
      have rr := entR_val e.1 rb
      rw [e1] at rr
      obtain ⟨z, hz, rz⟩ := rr.some_of
      rw [← r.1]
      cases hh : atKey ys e.1 with
      | none => rw [hh] at hz; cases hz
      | some p =>
        rw [hh] at hz
        have : p.2 = z := Option.some.inj hz
        exact ⟨p, rfl, by rw [this]; exact eqAt_same r.2.2 rz f⟩
    · exact ih (fun p hm => hp p (List.mem_cons_of_mem _ hm)) y hy
theorem eqIn_dicts {A : Around} (I : Inv X pins σ H s) {a b : Addr} {ks ls : List (NestedKey × V)} (da : DictK X.prog X.w H a ks) (db : DictK X.prog X.w H b ls) (hs : SameK ks ls) (hu : A.units + 1 + 8 < cLine) : EqIn X.prog X.w A s (.ref a) (.ref b) true := by
  by_cases hab : a = b
  · subst hab
    exact (EqAt.same _).inModel _ _
  obtain ⟨es, da, rfl⟩ := da
  obtain ⟨es', db, rfl⟩ := db
  refine EqIn.of_refs hab fun E Q q => ?_
  obtain ⟨_, ya, xs, ra, dda⟩ := da.of I.hok
  obtain ⟨_, yb, ys, rb, ddb⟩ := db.of I.hok
  have hl : xs.length = ys.length := by
    have := hs.1
    rw [kvs_len, kvs_len, Paired.length ra, Paired.length rb] at this
    exact this
  exact n_eq ya yb dda ddb hu hl (hits_n rb hs.2 ra) q
def rNeDN (X : Cx) : R2 := fun x y H Q => ∃ a b ks ls, x = .ref a ∧ y = .ref b ∧ DictK X.prog X.w H a ks ∧ DictK X.prog X.w H b ls ∧ SameK ks ls ∧ Q (.bl false) H
theorem op_neDN (hu : X.A.units + 64 < cLine) : OpR X (compareOp .NotEq) (rNeDN X) := by
  intro pins s σ H x y v u Q I rx ry h
  obtain ⟨a, b, ks, ls, rfl, rfl, ⟨es, da, rfl⟩, ⟨es', db, rfl⟩, hs, q⟩ := h
  obtain rfl : v = Value.ref a := rx
  obtain rfl : u = Value.ref b := ry
  obtain ⟨_, ya, xs, ra, dda⟩ := da.of I.hok
  obtain ⟨_, yb, ys, rb, ddb⟩ := db.of I.hok
  have hl : xs.length = ys.length := by
    have := hs.1
    rw [kvs_len, kvs_len, Paired.length ra, Paired.length rb] at this
    exact this
  exact n_ne ya yb dda ddb (by omega) hl (hits_n rb hs.2 ra) ⟨.bl _, H, I, rfl, q⟩
/-- [d, e] != [f, f], all alike -/
def rNeDN2 (X : Cx) : R2 := fun x y H Q => ∃ a b c1 c2 c3 ks1 ks2 ls, x = .ref a ∧ y = .ref b ∧ H a = some (.lst [.ref c1, .ref c2]) ∧ H b = some (.lst [.ref c3, .ref c3]) ∧ DictK X.prog X.w H c1 ks1 ∧ DictK X.prog X.w H c2 ks2 ∧ DictK X.prog X.w H c3 ls ∧
  SameK ks1 ls ∧ SameK ks2 ls ∧ Q (.bl false) H
theorem op_neDN2 (hu : X.A.units + 64 < cLine) : OpR X (compareOp .NotEq) (rNeDN2 X) := by
  intro pins s σ H x y v u Q I rx ry h
  obtain ⟨a, b, c1, c2, c3, ks1, ks2, ls, rfl, rfl, h1, h2, d1, d2, d3, s1, s2, q⟩ := h
  obtain rfl : v = Value.ref a := rx
  obtain rfl : u = Value.ref b := ry
  obtain ⟨_, vs, n, rv, e1⟩ := I.hok _ _ h1
  obtain ⟨_, ws, m, rw', e2⟩ := I.hok _ _ h2
  obtain ⟨_, _, rfl, r1, r2⟩ := rv.two
  obtain ⟨_, _, rfl, r3, r4⟩ := rw'.two
  cases r1; cases r2; cases r3; cases r4
  refine ne_lists_eq (items := [Value.ref c1, .ref c2].toArray) (items2 := [Value.ref c3, .ref c3].toArray) ⟨_, e1, rfl, n, rfl⟩ ⟨_, e2, rfl, m, rfl⟩ rfl (by omega) (fun j j1 j2 => ?_) ⟨.bl _, H, I, rfl, q⟩
  have hu1 : X.A.in1.units + 1 + 8 < cLine := by show X.A.units + 1 + 1 + 8 < cLine; omega
  match j, j1 with
  | 0, _ => exact eqIn_dicts I d1 d3 s1 hu1
  | 1, _ => exact eqIn_dicts I d2 d3 s2 hu1
end
end K67
end
/-! ## K67Num -/
section
set_option maxHeartbeats 4000000
/-! K67Num: max and min with default, list.count of data -/
namespace K67
open PySem PySem.Spec PyProof.Rows L2 LamX SeqAt PySem.W
section
variable {X : Cx}
def rMaxD (K : PySem.W.Frag) : List V → List V → Hp → VK → Prop := fun vs zs H Q => ∃ (a : Addr) (ns : List Int) (d : V), vs = [V.ref a] ∧ zs = [d] ∧ SqL K H a (ns.map V.int) ∧ (ns = [] → Q d H) ∧ ∀ m, m ∈ ns → (∀ y, y ∈ ns → y ≤ m) → Q (.int m) H
def rMinD (K : PySem.W.Frag) : List V → List V → Hp → VK → Prop := fun vs zs H Q => ∃ (a : Addr) (ns : List Int) (d : V), vs = [V.ref a] ∧ zs = [d] ∧ SqL K H a (ns.map V.int) ∧ (ns = [] → Q d H) ∧ ∀ m, m ∈ ns → (∀ y, y ∈ ns → m ≤ y) → Q (.int m) H
theorem maxOf_int : ∀ (ys : List Int) (y : Int), maxOf y ys ∈ y :: ys ∧ ∀ z ∈ y :: ys, z ≤ maxOf y ys
  | [], y => ⟨List.mem_cons_self, fun z hz => by obtain rfl := List.mem_singleton.mp hz; exact Int.le_refl _⟩
  | x :: ys, y => by
    have e : maxOf y (x :: ys) = maxOf (if DatumOrd.lt y x = true then x else y) ys := rfl
    have hm : (if DatumOrd.lt y x = true then x else y) = max y x := by
      show (if decide (y < x) = true then x else y) = _
      by_cases q : y < x
      · simp only [q, decide_true, if_true]; omega
      · simp only [q, decide_false, Bool.false_eq_true, if_false]; omega
    rw [e, hm]
    obtain ⟨h1, h2⟩ := maxOf_int ys (max y x)
    refine ⟨?_, fun z hz => ?_⟩
    · rcases List.mem_cons.mp h1 with h | h
      · rw [h]
        by_cases q : y ≤ x
        · rw [Int.max_eq_right q]; simp
        · rw [Int.max_eq_left (by omega)]; simp
      · simp [h]
    · have h3 := h2 (max y x) List.mem_cons_self
      rcases List.mem_cons.mp hz with rfl | hz
      · omega
      · rcases List.mem_cons.mp hz with rfl | hz
        · omega
        · exact h2 z (List.mem_cons_of_mem _ hz)
theorem minOf_int : ∀ (ys : List Int) (y : Int), minOf y ys ∈ y :: ys ∧ ∀ z ∈ y :: ys, minOf y ys ≤ z
  | [], y => ⟨List.mem_cons_self, fun z hz => by obtain rfl := List.mem_singleton.mp hz; exact Int.le_refl _⟩
  | x :: ys, y => by
    have e : minOf y (x :: ys) = minOf (if DatumOrd.lt x y = true then x else y) ys := rfl
    have hm : (if DatumOrd.lt x y = true then x else y) = min y x := by
      show (if decide (x < y) = true then x else y) = _
      by_cases q : x < y
      · simp only [q, decide_true, if_true]; omega
      · simp only [q, decide_false, Bool.false_eq_true, if_false]; omega
    rw [e, hm]
    obtain ⟨h1, h2⟩ := minOf_int ys (min y x)
    refine ⟨?_, fun z hz => ?_⟩
    · rcases List.mem_cons.mp h1 with h | h
      · rw [h]
        by_cases q : y ≤ x
        · rw [Int.min_eq_left q]; simp
        · rw [Int.min_eq_right (by omega)]; simp
      · simp [h]
    · have h3 := h2 (min y x) List.mem_cons_self
      rcases List.mem_cons.mp hz with rfl | hz
      · omega
      · rcases List.mem_cons.mp hz with rfl | hz
        · omega
        · exact h2 z (List.mem_cons_of_mem _ hz)
theorem holds_at {h : Heap} {vs : List Value} {ns : List Int} (hi : IntsAre vs ns) {i : Nat} {v : Value} (hv : vs[i]? = some v) {n : Int} (hh : Holds h v n) : ∃ t, v = .int n t := by
  have key : ∀ {vs : List Value} {ns : List Int} {i : Nat}, IntsAre vs ns → vs[i]? = some v → ∃ m t, v = .int m t := by
    intro vs ns i hi
    induction hi generalizing i with
    | nil => intro e; simp at e
    | cons m t _ ih =>
      intro e
      cases i with
      | zero => simp at e; subst e; exact ⟨_, _, rfl⟩
      | succ i => exact ih (by simpa using e)
  obtain ⟨m, t, rfl⟩ := key hi hv
  obtain ⟨as, r⟩ := hh
  cases r
  exact ⟨t, rfl⟩
theorem cr_maxD (hc : X.calm = true) (hu : X.A.units + 64 < cLine) : CallRK X (.builtin "max") [Str.ofString "default"] (rMaxD X.K) := by
  intro pins s σ H vs zs us ws Q I r rz h
  obtain ⟨a, ns, d, rfl, rfl, hs, q0, q⟩ := h
  obtain rfl := Vals.ref1 r
  obtain ⟨w1, rfl, e1⟩ := vals1 rz
  obtain ⟨its, rv, hl, _⟩ := I.list hs
  have hi := rv.ints
  refine max_list_datum_default (α := Int) (xs := ns) (I.ok.hd hc) hl.isList (HoldAll.of_ints (by simpa using hi)) (by show X.A.units + 1 + 0 < _; omega) (fun e h' tk hk => ⟨d, H, I.kept hk, e1, q0 e⟩) fun y ys i v h' tk e hv hh hk => ?_
  obtain ⟨t, rfl⟩ := holds_at (by simpa using hi) (i := i) (v := v) (by simpa using hv) hh
  obtain ⟨h1, h2⟩ := maxOf_int ys y
  rw [← e] at h1 h2
  exact ⟨.int _, H, I.kept hk, ⟨_, rfl⟩, q _ h1 h2⟩
theorem cr_minD (hc : X.calm = true) (hu : X.A.units + 64 < cLine) : CallRK X (.builtin "min") [Str.ofString "default"] (rMinD X.K) := by
  intro pins s σ H vs zs us ws Q I r rz h
  obtain ⟨a, ns, d, rfl, rfl, hs, q0, q⟩ := h
  obtain rfl := Vals.ref1 r
  obtain ⟨w1, rfl, e1⟩ := vals1 rz
  obtain ⟨its, rv, hl, _⟩ := I.list hs
  have hi := rv.ints
  refine min_list_datum_default (α := Int) (xs := ns) (I.ok.hd hc) hl.isList (HoldAll.of_ints (by simpa using hi)) (by show X.A.units + 1 + 0 < _; omega) (fun e h' tk hk => ⟨d, H, I.kept hk, e1, q0 e⟩) fun y ys i v h' tk e hv hh hk => ?_
  obtain ⟨t, rfl⟩ := holds_at (by simpa using hi) (i := i) (v := v) (by simpa using hv) hh
  obtain ⟨h1, h2⟩ := minOf_int ys y
  rw [← e] at h1 h2
  exact ⟨.int _, H, I.kept hk, ⟨_, rfl⟩, q _ h1 h2⟩
/-! list.count -/
open Classical in
noncomputable def isD (h : Heap) (d : NestedKey) (y : Value) : Bool := decide (NestedIs h d y)
theorem isD_true {h : Heap} {d : NestedKey} {y : Value} (k : NestedIs h d y) : isD h d y = true := by unfold isD; exact @decide_eq_true _ (Classical.propDecidable _) k
theorem isD_false {h : Heap} {d : NestedKey} {y : Value} (k : ¬ NestedIs h d y) : isD h d y = false := by unfold isD; exact @decide_eq_false _ (Classical.propDecidable _) k
theorem isD_count {h : Heap} {d : NestedKey} : ∀ (ds : List NestedKey) (its : List Value), NestedAll h ds its → its.countP (isD h d) = ds.count d
  | [], [], _ => rfl
  | [], _ :: _, k => by cases k
  | _ :: _, [], k => by cases k
  | e :: ds, v :: its, k => by
    cases k with
    | cons k1 k2 =>
      rw [List.countP_cons, List.count_cons, isD_count ds its k2]
      by_cases q : e = d
      · subst q
        have : isD h e v = true := isD_true k1
        rw [this]
        simp
      · have : isD h d v = false := isD_false fun z => q (NestedIs.inj _ _ _ k1 z)
        rw [this]
        simp [q]
def rCntK : V → List V → Hp → VK → Prop := fun x xs H Q => ∃ (a : Addr) (ys : List V) (y : V) (ds : List NestedKey) (d : NestedKey), x = .ref a ∧ xs = [y] ∧ H a = some (.lst ys) ∧ Tps H ys ds ∧ Tp H y d ∧ d.depth ≤ 50 ∧ Q (.int (ds.count d : Nat)) H
theorem mt_cntK (hu : X.A.units + 64 < cLine) : MtR X "list.count" rCntK := by
  intro pins s σ H x xs v us Q I rx rxs h
  obtain ⟨a, ys, y, ds, d, rfl, rfl, ha, ty, td, hd, q⟩ := h
  cases rx
  obtain ⟨u, rfl, ru⟩ := rxs.one
  obtain ⟨its, il, ka⟩ := lst_at I ha ty
  have kd := Tp.nested I.hok _ _ _ td ru
  obtain ⟨⟨cls, dd, data, sl⟩, ho, hc, n, hdd⟩ := il
  simp only at hc hdd
  subst hc hdd
  refine call_meets PySem.F.slot_list_count ⟨_, ho, rfl⟩ PySem.F.entry_list_count (PySem.F.args_list_count_2 _ _)
    (SeqAt.list_countAt a its.toArray n dd sl u (isD s.heap d)) ⟨ho, fun z hz => ?_, ?_⟩
  · obtain ⟨j, hj⟩ := List.mem_iff_getElem?.mp (show z ∈ its by simpa using hz)
    obtain ⟨e, he⟩ : ∃ e, NestedIs s.heap e z := by
      have key : ∀ {ds : List NestedKey} {its : List Value} {j : Nat}, NestedAll s.heap ds its → its[j]? = some z → ∃ e, NestedIs s.heap e z := by
        intro ds
        induction ds with
        | nil => intro its j k e; cases k; simp at e
        | cons d ds ih =>
          intro its j k e
          cases k with
          | cons k1 k2 =>
            cases j with
            | zero => simp at e; subst e; exact ⟨_, k1⟩
            | succ j => exact ih k2 (j := j) (by simpa using e)
      exact key ka hj
    have hh := eqAt_key e d X.A.in1 s z u he kd (by show X.A.units + 1 + _ < _; omega)
    have : isD s.heap d z = NestedKey.beq e d := by
      rw [← NestedKey.decide_eq]
      by_cases q : e = d
      · subst q; rw [isD_true he]; simp
      · rw [isD_false fun k => q (NestedIs.inj _ _ _ he k), decide_eq_false q]
    rw [this]
    exact hh
  · have ec : its.toArray.toList.countP (isD s.heap d) = ds.count d := isD_count ds its ka
    refine ⟨.int (ds.count d : Nat), H, I.tok _, ⟨s.toks, ?_⟩, q⟩
    show Value.int ((its.toArray.toList.countP (isD s.heap d) : Nat) : Int) s.toks = Value.int ((ds.count d : Nat) : Int) s.toks
    rw [ec]
end
end K67
end
/-! ## K67Dict3 -/
section
set_option maxHeartbeats 4000000
/-! K67Dict3: dict(pairs) with text keys, a display with tuple keys -/
namespace K67
open PySem PySem.Spec PyProof.Rows L2 LamX
def PairsT (H : Hp) : List V → List (Key × V) → Prop := Paired fun v p => ∃ t, v = .ref t ∧ Rd H t (.tup [kV p.1, p.2])
def rDictT : List V → Hp → VK → Prop := fun xs H Q => ∃ a o vs ps, xs = [.ref a] ∧ H a = some (.frz o (.tup vs)) ∧ o.dict = Option.none ∧ PairsT H vs ps ∧ ps.length ≤ 100000 ∧ ∀ d, H d = none → Q (.ref d) (upd H d (.dK (mergeK [] ps)))
def tDispN (P : Program) (w : World) (trs : List (TE × TE)) : TE := fun σ H Q => ∀ p, H p = none → tPairs trs σ (upd H p (DN P w p [])) fun ps H2 => H2 p = some (DN P w p []) ∧
  ∃ es : List Ent, ps = es.map (fun e => (V.ref e.2.1, e.2.2)) ∧ (∀ e ∈ es, Tp H2 (.ref e.2.1) e.1 ∧ e.1.depth ≤ 8) ∧ es.length ≤ 15 ∧ Q (.ref p) (upd H2 p (DN P w p (storeAll [] es)))
section
variable {X : Cx} {P : Program} {w : World}
theorem pairsT_vals {h : Heap} {H : Hp} (ok : HOk P w H h) : ∀ {vs : List V} {ps : List (Key × V)} {us : List Value}, PairsT H vs ps → Vals vs us → ∃ xs : List (Key × Value), KV ps xs ∧ Paired (fun u x => ∃ t k, u = Value.ref t ∧ h.IsTuple t #[k, x.2] ∧ (mixKind P w).is x.1 k = true) us xs
  | _, _, _, .nil, .nil => ⟨[], .nil, .nil⟩
  | _, p :: _, _, .cons ⟨t, e, h1⟩ q, .cons r rs => by
    obtain ⟨xs, a1, a2⟩ := pairsT_vals ok q rs
    subst e
    cases r
    obtain ⟨_, its, rv, o, ho, hc, n, hd⟩ := h1.ok ok
    cases rv with
    | cons r1 rr =>
      cases rr with
      | cons r2 rr =>
        cases rr
        exact ⟨(p.1, _) :: xs, .cons ⟨rfl, r2⟩ a1, .cons ⟨t, _, rfl, ⟨o, ho, hc, n, hd⟩, kV_is r1⟩ a2⟩
theorem call_dictT (hc : X.calm = true) : CallR X (.type "dict") rDictT := by
  intro pins s σ H xs us Q I r h
  obtain ⟨a, o, vs, ps, rfl, ha, hdn, hps, hl, q⟩ := h
  obtain ⟨u, rfl, rx⟩ := vals1 r
  cases rx
  obtain ⟨ho, _, its, rv, o', ho', hcl, n, hdat⟩ := I.hok a _ ha
  rw [ho] at ho'
  cases ho'
  obtain ⟨zs, e1, e2⟩ := pairsT_vals I.hok hps rv
  have l1 : its.length = zs.length := Paired.length e2
  have l2 : ps.length = zs.length := Paired.length e1
  let Ts : Nat → Addr := fun j => match its[j]? with
    | some (.ref t) => t
    | _ => 0
  let Ks : Nat → Value := fun j => match its[j]? with
    | some (.ref t) => (match s.heap.get? t with
      | some ⟨_, _, .seq vs _, _⟩ => vs.getD 0 .none
      | _ => .none)
    | _ => .none
  have hz : zs.length ≤ sizeLine := sz_le' (by omega)
  have hT : ∀ j x, zs[j]? = some x → its[j]? = some (.ref (Ts j)) ∧ s.heap.IsTuple (Ts j) #[Ks j, x.2] ∧ (mixKind X.prog X.w).is x.1 (Ks j) = true := by
    intro j x hx
    obtain ⟨u, hu, t, k, rfl, ht, hk⟩ := paired_ix e2 hx
    have eT : Ts j = t := by show (match its[j]? with | some (.ref t) => t | _ => 0) = t; rw [hu]
    have eK : Ks j = k := by
      obtain ⟨⟨cls, dd, data, sl⟩, g1, g2, m, g3⟩ := ht
      simp only at g2 g3
      subst g2 g3
      show (match its[j]? with | some (.ref t) => (match s.heap.get? t with | some ⟨_, _, .seq vs _, _⟩ => vs.getD 0 .none | _ => .none) | _ => .none) = k
      rw [hu]
      show (match s.heap.get? t with | some ⟨_, _, .seq vs _, _⟩ => vs.getD 0 .none | _ => .none) = k
      rw [g1]
      rfl
    rw [eT, eK]
    exact ⟨hu, ht, hk⟩
  have get : ∀ j (x : Value × Value), (zs.mapIdx fun j x => (Ks j, x.2))[j]? = some x → ∃ z, zs[j]? = some z ∧ x = (Ks j, z.2) := by
    intro j x hj
    rw [List.getElem?_mapIdx] at hj
    obtain ⟨z, hz, e⟩ := Option.map_eq_some_iff.mp hj
    exact ⟨z, hz, e.symm⟩
  refine PySem.call_dict_pairs (knd := mixKind X.prog X.w) (kvs := zs) (PairArg.tuple a its.toArray Ts (zs.mapIdx fun j x => (Ks j, x.2))) (I.ok.hd hc)
    ⟨⟨o, n, ho, hcl, hdn, hdat⟩, by simp [l1], fun j k v hj => ?_⟩ ⟨by rw [List.length_mapIdx], fun i key v hi => ?_⟩ (by rw [List.length_mapIdx]; exact hz) fun h' tk hd hk => ?_
  · obtain ⟨z, hz, e⟩ := get j _ hj
    cases e
    obtain ⟨h1, h2, _⟩ := hT j z hz
    exact ⟨by simpa using h1, .inl h2⟩
  · obtain ⟨z, hz, e⟩ := get i _ (show (zs.mapIdx fun j x => (Ks j, x.2))[i]? = some (key, v) from hi)
    cases e
    exact ⟨z.1, hz, (hT i z hz).2.2⟩
  · have hf : H s.heap.objs.size = none := I.hok.fresh (Nat.le_refl _)
    have hlen : (mergeK [] ps).length ≤ sizeLine := by
      refine Nat.le_trans (length_mergeK ps []) ?_
      rw [List.length_nil, Nat.zero_add, l2]
      exact hz
    exact ⟨.ref s.heap.objs.size, upd H s.heap.objs.size (.dK (mergeK [] ps)), I.laid (t' := tk) (fun b o e => hk b o (by simp) e) (Nat.le_refl _) (dk_new hlen (beq_eq_false_iff_ne.mpr (Nat.ne_of_gt I.big)) (KV.merge e1 .nil) hd), rfl, q _ hf⟩
theorem carriesN {h : Heap} {H : Hp} (ok : HOk P w H h) : ∀ {es : List Ent} {ws : List (Value × Value)}, (∀ e ∈ es, Tp H (.ref e.2.1) e.1 ∧ e.1.depth ≤ 8) → VV (es.map fun e => (V.ref e.2.1, e.2.2)) ws → ∃ rs, CarriesH (nestedKind P w) h ws rs ∧ Paired EntR es rs
  | [], _, _, r => by rw [List.map_nil] at r; cases r; exact ⟨[], True.intro, .nil⟩
  | e :: es, _, hk, r => by
    rw [List.map_cons] at r
    cases r with
    | @cons a b as bs h1 t =>
      obtain ⟨rs, c, q⟩ := carriesN ok (fun e he => hk e (List.mem_cons_of_mem _ he)) t
      obtain ⟨b1, b2⟩ := b
      obtain ⟨t1, d1⟩ := hk e List.mem_cons_self
      have h1a : b1 = Value.ref e.2.1 := h1.1
      exact ⟨(e.1, e.2.1, b2) :: rs, ⟨h1a, rfl, ⟨Tp.nested ok _ _ _ t1 rfl, d1⟩, c⟩, .cons ⟨rfl, rfl, h1.2⟩ q⟩
theorem pe_dispN {pos : Pos} {keys : List (Option Expr)} {values : List Expr} {trs : List (TE × TE)} (hP : X.prog = P) (hw : X.w = w) (hu : X.A.units + 16 < cLine) (h : PPs X pos keys values trs) (hall : keys.all (·.isSome) = true) (hl : keys.length = values.length) (h0 : keys ≠ [])
    (h15 : keys.length ≤ 15) : PE X (.Dict keys values pos) (tDispN P w trs) := by
  subst hP hw
  refine ⟨fun pins s σ H Q I q => ?_⟩
  have hn := I.hok.fresh (Nat.le_refl s.heap.objs.size)
  have I1 := I.laid (a := s.heap.objs.size) (o := DN X.prog X.w s.heap.objs.size []) (h' := s.heap.push { cls := .type "dict", data := .dict #[] }) (t' := s.toks) (fun _ _ q => Heap.get?_push_of_some _ q) (Nat.le_refl _) (dn_empty s.heap I.big)
  have hlen := pairTrees_length keys values X.env pos hall hl
  have hp0 : pairTrees keys values X.env pos ≠ [] := fun he => by rw [he] at hlen; exact h0 (List.length_eq_zero_iff.mp hlen.symm)
  rw [arm_eval_Dict, zip_pairTrees keys values X.env pos hall hl, dictDisplay_pairs _ hp0 (by rw [hlen]; omega)]
  refine wpAny_bind (wpAny_standAt (wpAny_bind (wpAny_subDictH (knd := nestedKind X.prog X.w) (Q := fun d s' => wpAny (model X.prog X.w) X.A (pure (Value.ref d)) (EP X pins σ Q) X.xe s') (by show X.A.units + 8 < cLine; omega) (by rw [hlen]; exact h15)
    (thn (h.run pins _ σ _ _ I1 (q _ hn)) fun ws s2 ⟨ps, H2, I2, rel, e, es, ep, hk, lk, q2⟩ => ?_))))
  subst ep
  obtain ⟨rs, c, rk⟩ := carriesN (P := X.prog) (w := X.w) I2.hok hk rel
  obtain ⟨_, hd, xs0, r0, dd⟩ := DictE.of (es := []) I2.hok ⟨e, fun e he => by cases he⟩
  cases r0
  refine ⟨rs, c, dd, fun h' tk dk hs => wpAny_pure ⟨.ref s.heap.objs.size, _, ?_, rfl, q2⟩⟩
  have he : ∃ q, h'.get? s.heap.objs.size = some q := let ⟨q, _, _, hq, _⟩ := dk; ⟨q, hq⟩
  have hz : (storeAll [] es).length ≤ sizeLine := sz_le' (by have := storeAll_len es []; simp at this; omega)
  exact d_write I2 (by rw [e]; exact True.intro) hs he (dn_ok hz hd (storeAll_rel rk .nil) dk)
end
end K67
end
/-! ## K67Enum -/
section
set_option maxHeartbeats 4000000
/-! K67Enum: enumerate(tuple) -/
namespace K67
open PySem PySem.Spec PyProof.Rows L2 LamX
theorem meets_enum1 {v : Value} {o : Obj} {H : Heap → Prop} (B : Begins v o H) :
    Meets (Builtin.«enumerate.__new__» ⟨[.type "enumerate", v], []⟩) (fun _ R s => H s.heap ∧
      R (.ok (.ret (.ref (s.heap.push o).objs.size))) { s with heap := (s.heap.push o).push { cls := .type "enumerate", data := .fields #[.none, .bool false, .ref s.heap.objs.size, rawInt 0, .none, .none] } }) :=
  .of_wp fun prog w A R s h => by
    obtain ⟨hp, g, d, tk, os⟩ := s; obtain ⟨h1, h⟩ := h
    have hsub := sub_enumerate
    have q1 : ∀ {A' : Around} {E : Value → Shared → Prop} {Q : Value → Shared → Prop}, Q (.ref hp.objs.size) ⟨hp.push o, g, d, tk, os⟩ → wpAny (model prog w) A' (pyIter v) Q E ⟨hp, g, d, tk, os⟩ :=
      fun q => B.iter prog w _ _ ⟨hp, g, d, tk, os⟩ _ h1 q
    wp_walk using q1
    refine wpAny_stack_any fun st => wpAny_pure ?_
    split
    · rename_i c _ _ _ _ _
      cases (c == Value.type "enumerate")
      · wp_walk using q1
        exact ⟨_, rfl, h⟩
      · wp_walk using q1
        exact ⟨_, rfl, h⟩
    · wp_walk using q1
      exact ⟨_, rfl, h⟩
section
variable {prog : Program} {w : World} {A : Around} {E : Value → Shared → Prop} {s : Shared}
theorem enum_begins1 {v : Value} {o : Obj} {H : Heap → Prop} {Q : Value → Shared → Prop} (B : Begins v o H) (h1 : H s.heap)
    (h : ∀ h', IsEnum h' (s.heap.objs.size + 1) s.heap.objs.size 0 .none → h'.get? s.heap.objs.size = some o → h'.objs.size = s.heap.objs.size + 2 →
      (∀ b o, s.heap.get? b = some o → h'.get? b = some o) → Q (.ref (s.heap.objs.size + 1)) { s with heap := h' }) :
    wpAny (model prog w) A (call (.type "enumerate") [v]) Q E s := by
  refine callType_new F.called_enumerate (by decide) (F.typeCall_enumerate_1 _) (F.newCall_enumerate_1 _) (fun obj => F.args_object_init_2 obj _) F.entry_enumerate_new
    (meets_enum1 B) ⟨h1, ?_⟩
  have hz : (s.heap.push o).objs.size = s.heap.objs.size + 1 := Heap.size_push ..
  show _ ∧ _
  rw [hz]
  have he : IsEnum ((s.heap.push o).push { cls := .type "enumerate", data := .fields #[.none, .bool false, .ref s.heap.objs.size, rawInt 0, .none, .none] }) (s.heap.objs.size + 1) s.heap.objs.size 0 .none := by
    have := Heap.get?_push_size (s.heap.push o) (o := { cls := .type "enumerate", data := .fields #[.none, .bool false, .ref s.heap.objs.size, rawInt 0, .none, .none] }) rfl
    rw [hz] at this; exact this
  refine ⟨⟨_, he, rfl⟩, h _ he (Heap.get?_push_of_some _ (Heap.get?_push_size _ B.free)) (by rw [Heap.size_push, hz]) fun b o x => Heap.get?_push_of_some _ (Heap.get?_push_of_some _ x)⟩
end
def IteT (K : PySem.W.Frag) (a : Addr) (n : Nat) : It :=
  ⟨fun i H => ∃ (xs : List V) (x : V), SqT K H a xs ∧ xs.length = n ∧ xs[i]? = some x, fun i H v H' => ∃ T x, v = .ref T ∧ H T = none ∧ H' = upd H T (.tup [.int (i : Nat), x]) ∧ ∀ xs, SqT K H a xs → xs[i]? = some x, fun i H => ∃ xs : List V, SqT K H a xs ∧ xs.length = n ∧ i = n⟩
theorem turn_enumT {P : Program} {w : World} {K : PySem.W.Frag} {elts : List Expr} {kk : Nat} {tpos : Pos} {n : Nat} (a e it : Addr) (hai : a ≠ it) (hea : e ≠ a) :
    Turn P w K (.Tuple elts kk tpos) (IteT K a n) [e, it] e (fun i h => (∃ old, IsEnum h e it ((i : Nat) : Int) old) ∧ h.IsTupleIter it a i ∧ e ≠ it) where
  mem := by simp
  obj := fun i h st b hb => by
    obtain ⟨⟨old, he⟩, ⟨o, ho, hc, hd⟩, _⟩ := st
    have e' : b = e ∨ b = it := by simpa using hb
    rcases e' with z | z
    · rw [z]; exact ⟨_, he, fun v q => nomatch q⟩
    · rw [z]; exact ⟨o, ho, fun v q => by rw [hd] at q; cases q⟩
  keep := fun i h h' st k => let ⟨⟨old, he⟩, hi, hne⟩ := st; ⟨⟨old, k e (by simp) _ he⟩, hi.at fun o q => k it (by simp) o q, hne⟩
  item := by
    intro X hP hw hK hc i pins s σ H E I hf st hg
    subst hP hw hK
    obtain ⟨⟨old, he⟩, hit, hne⟩ := st
    obtain ⟨xs, x, hq, hn, hx⟩ := hg
    obtain ⟨its, rv, p, hz⟩ := I.tuple hq
    obtain ⟨u, hu, ru⟩ := rv.get hx
    have hl := rv.length
    have hlt : i < its.toArray.size := by
      obtain ⟨z, _⟩ := List.getElem?_eq_some_iff.mp hu
      simpa using z
    have hel : e < s.heap.objs.size := Heap.lt_size he
    have hil : it < s.heap.objs.size := by obtain ⟨_, q, _⟩ := hit; exact Heap.lt_size q
    refine wpAny_pyNext_enum_itemD (A := X.A) (Draws.tuple (A := X.A.in1) (I.ok.hd hc) it a hai its.toArray) he ⟨hit, p⟩ hlt hne (by simp [hea, hne]) fun x' h' tk hP ho hst hT hsz hk => ?_
    have ex : x' = u := by
      have hP : its.toArray[i]? = some x' := hP
      rw [List.getElem?_toArray, hu] at hP
      exact (Option.some.inj hP).symm
    subst ex
    obtain ⟨hit', _⟩ := hst
    refine ⟨_, rfl, wpAny_letOwnedTupleGo_enum (s := { s with heap := h', toks := tk + 1 }) ho fun h'' he' sb => ?_⟩
    have hT2 : h''.get? s.heap.objs.size = some { cls := .type "tuple", data := .seq #[.int i tk, x'] } := (sb.2 _ (Nat.ne_of_gt hel)).trans hT
    have new : ObjOk X.prog X.w (upd H s.heap.objs.size (.tup [.int (i : Nat), x])) h'' s.heap.objs.size (.tup [.int (i : Nat), x]) :=
      ⟨by show 2 ≤ sizeLine; decide, [.int i tk, x'], .cons ⟨_, rfl⟩ (.cons ru .nil), ⟨_, hT2, rfl, _, rfl⟩⟩
    have I1 : Inv X pins σ (upd H s.heap.objs.size (.tup [.int (i : Nat), x])) { s with heap := h'', toks := tk + 1 } :=
      I.turnedNew (ch := [e, it]) (fun b ob hb q => (sb.2 b (fun z => hb (by simp [z]))).trans (hk b ob (fun z => hb (by simp [z])) (fun z => hb (by simp [z])) q)) hf (Nat.le_refl _) new
    refine ⟨.ref s.heap.objs.size, _, I1, rfl, ⟨_, x, rfl, I.hok.fresh (Nat.le_refl _), rfl, fun ys hy => by rw [I.tuple_inj hy hq]; exact hx⟩, ⟨⟨x', ?_⟩, hit'.at fun o q => (sb.2 it (Ne.symm hne)).trans q, hne⟩, fun b hb => ?_⟩
    · have e1 : ((i + 1 : Nat) : Int) = (i : Int) + 1 := by omega
      rw [e1]; exact he'
    · have hb' : b < s.heap.objs.size := by
        have e' : b = e ∨ b = it := by simpa using hb
        rcases e' with z | z
        · rw [z]; exact hel
        · rw [z]; exact hil
      rw [upd_ne (Nat.ne_of_lt hb')]
      exact (hf b hb).1
  done := by
    intro X hP hw hK hc i pins s σ H E I hf st hg
    subst hP hw hK
    obtain ⟨⟨old, he⟩, hit, hne⟩ := st
    obtain ⟨xs, hq, hn, hx⟩ := hg
    obtain ⟨its, rv, p, hz⟩ := I.tuple hq
    obtain ⟨f0, f1, f2, f3, f4, f5⟩ := hf it (by simp)
    have hl := rv.length
    have hi : i = its.toArray.size := by rw [List.size_toArray]; omega
    subst hi
    exact wpAny_pyNext_enum_endD (Draws.tuple (A := X.A.in1) (I.ok.hd hc) it a hai its.toArray) he ⟨hit, p⟩ fun h' eb => ⟨rfl, I.turned (t' := s.toks) (fun b o hb q => eb b o hb q) f0 f1 f3 f4 f5⟩
  self := fun A i s Q E st h => let ⟨⟨_, he⟩, _⟩ := st; wpAny_pyIter_enum he h
def iEnumT (K : PySem.W.Frag) (ta : TA) : TI := fun σ H R => ta σ H fun vs H1 => ∃ a xs, vs = [.ref a] ∧ SqT K H1 a xs ∧ R (IteT K a xs.length) H1
theorem pi_enumT {X : Cx} {K : PySem.W.Frag} {e : Expr} {ta : TA} {p pos tpos : Pos} {elts : List Expr} {kk : Nat} (hK : X.K = K) (hg : Gl X "enumerate") (hm : X.mg "enumerate" = none) (ha : PA X [e] ta) (hs : starEach [e] X.env = [(false, eval e X.env)] := by rfl) :
    PI X (.Tuple elts kk tpos) (.Call (.Name "enumerate" p) [e] [] pos) (iEnumT K ta) := by
  subst hK
  refine ⟨fun pins s σ H R I h => ?_⟩
  refine Call_ (ld_blt I hg hm boot_enumerate (PyProof.Rows.callWith_type1 (thn (ha.run pos pins s σ H _ I h) fun us s1 ⟨vs, H1, I1, r1, q1⟩ => ?_) hs rfl))
  obtain ⟨a, xs, ex, hq, q⟩ := q1
  subst ex
  cases r1 with
  | cons r rr =>
    cases rr
    cases r
    obtain ⟨its, rv, p', hz⟩ := I1.tuple hq
    have hal : a < s1.heap.objs.size := by obtain ⟨o, ho, _⟩ := id p'; exact Heap.lt_size ho
    refine enum_begins1 (begins_tuple a its.toArray) p' fun h' he hit hsz hk => wpAny_pyIter_enum he ?_
    have I2 : Inv X pins σ H1 { s1 with heap := h' } := I1.kept (t' := s1.toks) hk
    refine ⟨s1.heap.objs.size + 1, [s1.heap.objs.size + 1, s1.heap.objs.size], _, _, H1, rfl, I2, turn_enumT a (s1.heap.objs.size + 1) s1.heap.objs.size (Nat.ne_of_lt hal) (Ne.symm (Nat.ne_of_lt (Nat.lt_succ_of_lt hal))), ⟨⟨.none, he⟩, ⟨_, hit, rfl, rfl⟩, Nat.succ_ne_self _⟩, fun b hb => ?_, q⟩
    have e' : b = s1.heap.objs.size + 1 ∨ b = s1.heap.objs.size := by simpa using hb
    have hle : s1.heap.objs.size ≤ b := by
      rcases e' with z | z
      · rw [z]; exact Nat.le_add_right _ _
      · rw [z]; exact Nat.le_refl _
    exact I1.fpOk hle (I1.hok.fresh hle)
theorem walk_enumT {K : PySem.W.Frag} {a : Addr} {xs : List V} : Walk (IteT K a xs.length) xs.length (fun H => SqT K H a xs) (YPair (fun i => some (.int (i : Nat))) (fun i => xs[i]?)) := by
  refine ⟨fun i _ hi q => ⟨xs, xs[i], q, rfl, by simp [hi]⟩, fun _ q => ⟨xs, q, rfl, rfl⟩, fun i H v H' _ q y => ?_⟩
  obtain ⟨T, x, h1, h2, h3, h4⟩ := y
  exact ⟨T, .int (i : Nat), x, h1, h2, h3, rfl, h4 xs q⟩
section
variable {T : List (Addr × Str)} {K : PySem.W.Frag} {β : Type} {g : TG} {tt : TT} {te : TE} {ta : TA} {vs : List Nat} {σ : L2.St} {H : Hp} {Q : VK}
/-- a list comprehension over enumerate(tuple of data) -/
theorem lcET (as : List NestedKey) (R : Addr → Hp → V → β → Prop) (F : Nat → NestedKey → Option β)
    (h : ∀ Q' : List V → Hp → Prop, (∀ x H', Sm T H H' → Tp H' x (.tup as) → Q' [x] H') → ta σ H Q') (hl : as.length ≤ 100000) (hR : ∀ D H H' v b, XBut D H H' → R D H v b → R D H' v b)
    (hs : ∀ D (i : Nat) p x a H1, as[i]? = some a → Sm T H H1 → Tp H1 x a → H1 p = some (.tup [.int (i : Int), x]) → (∃ ys, H1 D = some (.lst ys)) → Turn' T g tt te vs σ (R D) (F i a) (.ref p) H1)
    (hd : ∀ D H1 ys, Sm T H H1 → H1 D = some (.lst ys) → Paired (R D H1) ys ((List.range as.length).filterMap fun i => as[i]?.bind (F i)) → Q (.ref D) H1) : tLc (iEnumT K ta) g tt te vs σ H Q := by
  refine h _ fun x H1 e1 h1 => ?_
  obtain ⟨a, xs, rfl, hq, h2⟩ := h1.tup_inv
  have hn : xs.length = as.length := Tps.length h2
  refine ⟨a, xs, rfl, .inl hq, fun D hD => ?_⟩
  refine lc_dat (T := T) (walk_enumT (K := K) (a := a) (xs := xs)) (R D) (fun i => as[i]?.bind (F i)) hD (fun H' e => .inl (e.rd hq)) (by omega) (hR D) (fun i x H2 H2' hi e2 hDs y Qy Qn hy hnn => ?_) (fun H' ys e2 hD' pr => ?_)
  · obtain ⟨p, x1, x2, rfl, hp, rfl, z1, z2⟩ := y
    obtain rfl : V.int (i : Int) = x1 := Option.some.inj z1
    obtain ⟨b, hb, td⟩ := h2.at_ z2
    have e3 : Sm T H2 (upd H2 p (.tup [.int (i : Int), x2])) := Sm.new hp
    obtain ⟨ys0, hy0⟩ := hDs
    exact hs D i p x2 b _ hb ((e1.trans e2).trans e3) (Tp.ts (e2.trans e3).ts _ _ td) upd_same ⟨ys0, e3.lst hy0⟩ Qy Qn (fun y b' H3 h1 h2 h3 => hy y b' H3 (by show as[i]?.bind (F i) = _; rw [hb]; exact h1) (e3.trans h2) h3) (fun H3 h1 h2 => hnn H3 (by show as[i]?.bind (F i) = _; rw [hb]; exact h1) (e3.trans h2))
  · rw [hn] at pr
    exact hd D H' ys (e1.trans e2) hD' pr
end
end K67
end
/-! ## K67Set -/
section
set_option maxHeartbeats 4000000
/-! K67Set: a small set of flat tuples: adding what is not there, sorted(set) -/
namespace K67
open PySem PySem.Spec PyProof.Rows L2 LamX SeqAt PySem.W
/-- the tuple at a tells the flat key .tup ds -/
def Fl (h : Heap) (ds : List NestedKey) (a : Addr) : Prop := ds.all atomB' = true ∧ NestedIs h (.tup ds) (.ref a)
where atomB' : NestedKey → Bool
  | .tup _ => false
  | _ => true
abbrev sHash (w : World) (ds : List NestedKey) : Int := NestedKey.hash w (.tup ds)
section
variable {P : Program} {w : World} {A : Around} {E : Value → Shared → Prop} {s : Shared} {ds : List NestedKey} {a b : Addr}
theorem Fl.is {h : Heap} (x : Fl h ds b) : (nestedKind P w).is h (.tup ds) b := by
  refine ⟨x.2, ?_⟩
  have key : ∀ ds : List NestedKey, ds.all Fl.atomB' = true → NestedKey.depthAll ds = 0 := by
    intro ds
    induction ds with
    | nil => intro _; rfl
    | cons d ds ih =>
      intro h
      rw [List.all_cons, Bool.and_eq_true] at h
      show max d.depth (NestedKey.depthAll ds) = 0
      rw [ih h.2]
      cases d with
      | tup _ => exact absurd h.1 Bool.false_ne_true
      | _ => rfl
  show NestedKey.depthAll ds + 1 ≤ 8
  rw [key ds x.1]
  decide
/-- what stands in a flat tuple asks nothing -/
def Leaf (v : Value) : Prop := (∀ n, ofAClassStatement n v = pure false) ∧ ∀ n, ∃ r, hashByValue n v = pure r
theorem leaf_all {h : Heap} : ∀ {ds : List NestedKey} {vs : List Value}, ds.all Fl.atomB' = true → NestedAll h ds vs → ∀ v ∈ vs, Leaf v
  | [], _, _, k => by cases k; intro v hv; cases hv
  | d :: ds, _, ha, k => by
    rw [List.all_cons, Bool.and_eq_true] at ha
    cases k with
    | cons k1 k2 =>
      intro v hv
      rcases List.mem_cons.mp hv with rfl | hv
      · cases k1 with
        | none => exact ⟨fun n => by cases n <;> rfl, fun n => ⟨_, by cases n <;> rfl⟩⟩
        | bool _ => exact ⟨fun n => by cases n <;> rfl, fun n => ⟨_, by cases n <;> rfl⟩⟩
        | int _ _ => exact ⟨fun n => by cases n <;> rfl, fun n => ⟨_, by cases n <;> rfl⟩⟩
        | text _ _ => exact ⟨fun n => by cases n <;> rfl, fun n => ⟨_, by cases n <;> rfl⟩⟩
        | tup _ _ _ _ => exact absurd ha.1 Bool.false_ne_true
      · exact leaf_all ha.2 k2 v hv
theorem no_class {Q : Bool → Shared → Prop} (x : Fl s.heap ds b) (q : Q false s) : wpAny (model P w) A (ofAClassStatement 8 (.ref b)) Q E s := by
  obtain ⟨ha, k⟩ := x
  cases k with
  | @tup _ o vs n _ ho hc hd hi =>
    have lf := leaf_all ha hi
    unfold ofAClassStatement
    refine wpAny_bind (wpAny_typeOf (T := "tuple") ⟨o, ho, hc⟩ ?_)
    dsimp only
    have e : (("tuple" : String) == "tuple") = true := by decide
    simp only [e, if_true, Bool.not_true, Bool.false_eq_true, if_false]
    try refine wpAny_bind (wpAny_pure ?_)
    try simp only [Bool.not_true, Bool.false_eq_true, if_false]
    show wpAny _ _ (seqItems? (.ref b) >>= _) _ _ s
    refine wpAny_bind (wpAny_seqItems ho hd ?_)
    dsimp only
    refine wpAny_bind ?_
    rw [← Array.forIn_toList]
    refine wpAny_forIn_list _ (fun rest r s' => r.1 = none ∧ s' = s ∧ ∀ v ∈ rest, Leaf v) _ ?_ ?_ _ _ ⟨rfl, rfl, lf⟩
    · rintro v rest r s' ⟨hr, rfl, hall⟩
      rw [(hall v List.mem_cons_self).1]
      refine wpAny_bind (wpAny_pure ?_)
      simp only [Bool.false_eq_true, if_false]
      exact wpAny_pure ⟨rfl, rfl, fun u hu' => hall u (List.mem_cons_of_mem _ hu')⟩
    · rintro ⟨r1, r2⟩ s' ⟨hr, rfl, _⟩
      simp only at hr
      subst hr
      exact wpAny_pure q
theorem by_value {Q : Bool → Shared → Prop} (x : Fl s.heap ds b) (q : ∀ r, Q r s) : wpAny (model P w) A (hashByValue 8 (.ref b)) Q E s := by
  obtain ⟨ha, k⟩ := x
  cases k with
  | @tup _ o vs n _ ho hc hd hi =>
    have lf := leaf_all ha hi
    unfold hashByValue
    refine wpAny_bind (wpAny_specialOf (T := "tuple") ⟨o, ho, hc⟩ F.slot_tuple_hash.lookup ?_)
    show wpAny _ _ (seqItems? (.ref b) >>= _) _ _ s
    refine wpAny_bind (wpAny_seqItems ho hd ?_)
    refine wpAny_bind ?_
    show wpAny _ _ (forIn vs _ _) _ _ s
    rw [← Array.forIn_toList]
    refine wpAny_forIn_list _ (fun rest r s' => r.1 = none ∧ s' = s ∧ ∀ v ∈ rest, Leaf v) _ ?_ ?_ _ _ ⟨rfl, rfl, lf⟩
    · rintro v rest r s' ⟨hr, rfl, hall⟩
      obtain ⟨z, hz⟩ := (hall v List.mem_cons_self).2 7
      rw [hz]
      refine wpAny_bind (wpAny_pure ?_)
      cases z with
      | true =>
        simp only [Bool.not_true, Bool.false_eq_true, if_false]
        exact wpAny_pure ⟨rfl, rfl, fun u hu' => hall u (List.mem_cons_of_mem _ hu')⟩
      | false =>
        simp only [Bool.not_false, if_true]
        exact wpAny_pure (wpAny_pure (q false))
    · rintro ⟨r1, r2⟩ s' ⟨hr, rfl, _⟩
      simp only at hr
      subst hr
      exact wpAny_pure (q true)
theorem not_seen {Q : Bool → Shared → Prop} (x : Fl s.heap ds b) {ys : List Value} (hy : ∀ y ∈ ys, ∃ es c, y = Value.ref c ∧ Fl s.heap es c) (q : Q false s) : wpAny (model P w) A (searchCouldBeSeen (.ref b) ys) Q E s := by
  unfold searchCouldBeSeen
  refine wpAny_bind ?_
  refine wpAny_forIn_list _ (fun rest r s' => r.1 = none ∧ s' = s ∧ ∀ y ∈ rest, ∃ es c, y = Value.ref c ∧ Fl s.heap es c) _ ?_ ?_ _ _ ⟨rfl, rfl, hy⟩
  · rintro v rest r s' ⟨hr, rfl, hall⟩
    obtain ⟨es, c, rfl, hc⟩ := hall v List.mem_cons_self
    have rest' : ∀ y ∈ rest, ∃ es c, y = Value.ref c ∧ Fl s'.heap es c := fun u hu' => hall u (List.mem_cons_of_mem _ hu')
    dsimp only
    by_cases hv : (b == c || (carriedByValue (.ref b) && carriedByValue (.ref c))) = true
    · refine wp_if_pos hv ?_
      exact wpAny_pure ⟨rfl, rfl, rest'⟩
    · refine wp_if_neg hv ?_
      refine wpAny_bind ((nestedKind P w).quiet x.is ?_)
      simp only [Bool.not_true, Bool.false_eq_true, if_false]
      refine wpAny_bind ((nestedKind P w).quiet hc.is ?_)
      simp only [Bool.not_true, Bool.false_eq_true, if_false]
      refine wpAny_bind (no_class x ?_)
      simp only [Bool.false_eq_true, if_false]
      refine wpAny_bind (no_class hc ?_)
      simp only [Bool.false_eq_true, if_false]
      exact wpAny_pure ⟨rfl, rfl, rest'⟩
  · rintro ⟨r1, r2⟩ s' ⟨hr, rfl, _⟩
    simp only at hr
    subst hr
    exact wpAny_pure q
/-- the rows of the set -/
def rowsN (w : World) (L : List (Addr × List NestedKey)) : List (Int × Value) := L.map fun p => (sHash w p.2, Value.ref p.1)
structure Sn (w : World) (h : Heap) (a : Addr) (L : List (Addr × List NestedKey)) (es : Array (Int × Value)) (ep : Nat) (t : SetTable) : Prop where
  ob : ∃ o, h.get? a = some o ∧ o.ExactSet ∧ o.data = .set es ep t
  rows : es.toList = rowsN w L
  tab : TabOk t (L.map fun p => sHash w p.2)
  m7 : t.mask = 7
  led : w.params.followText "set-order" = true ∨ t.led = true
  few : L.length ≤ 3
variable {L : List (Addr × List NestedKey)} {es : Array (Int × Value)} {ep : Nat} {t : SetTable}
theorem Sn.size {h : Heap} (R : Sn w h a L es ep t) : es.size = L.length := by
  have e := congrArg List.length R.rows
  unfold rowsN at e
  rwa [Array.length_toList, List.length_map] at e
theorem Sn.fits {h : Heap} (R : Sn w h a L es ep t) : t.fits es.size = true := by
  have h1 := R.tab.sz
  have h2 := R.size
  have h3 := R.few
  have h4 := R.m7
  rw [List.length_map] at h1
  unfold SetTable.fits SetTable.fill
  rw [R.tab.dm, Bool.and_eq_true, beq_iff_eq, decide_eq_true_eq]
  show t.place.size = es.size ∧ t.place.size + 0 ≤ t.mask
  omega
theorem Sn.at_ {h : Heap} (R : Sn w h a L es ep t) {i : Nat} {p : Addr × List NestedKey} (e : L[i]? = some p) : es[i]? = some (sHash w p.2, Value.ref p.1) := by
  rw [← Array.getElem?_toList, R.rows]
  unfold rowsN
  rw [List.getElem?_map, e]
  rfl
theorem nth_dummy (m : Nat) : ∀ (n : Nat) (p : SetTable.Probe), p.dummy = none → (nth m p n).dummy = none
  | 0, _, h => h
  | n + 1, p, h => nth_dummy m n (adv m p) (by unfold adv; split <;> exact h)
/-- the search for a key that isn't there ends at the first empty slot on its way -/
theorem find_free (R : Sn w s.heap a L es ep t) (hL : ∀ p ∈ L, Fl s.heap p.2 p.1 ∧ p.2 ≠ ds) (hx : Fl s.heap ds b) (hu : A.units + 8 < cLine) {K : Nat} (hKf : K < 10 * SetTable.turns t.mask)
    (hK : way t.mask (sHash w ds) K ∉ t.place.toList) (hKb : ∀ c, c < K → way t.mask (sHash w ds) c ∈ t.place.toList) {Q : SetFound → Shared → Prop} (q : Q (.free (way t.mask (sHash w ds) K) false) s) :
    ∀ (f c : Nat) (stand : Option SetTable.Probe), stand.getD (t.probeStart (sHash w ds)) = nth t.mask (runAt t.mask (SetTable.bits (sHash w ds) % (t.mask + 1)) (SetTable.bits (sHash w ds))) c → c ≤ K → K - c < f →
      wpAny (model P w) A (setSearchFrom a (.ref b) (sHash w ds) true f stand) Q E s := by
  intro f
  induction f with
  | zero => intro c _ _ _ hf; exact absurd hf (Nat.not_lt_zero _)
  | succ f ih =>
    intro c stand hst hc hf
    obtain ⟨o, ho, hex, hd⟩ := R.ob
    generalize hway : runAt t.mask (SetTable.bits (sHash w ds) % (t.mask + 1)) (SetTable.bits (sHash w ds)) = p0 at hst ih
    have ew : ∀ k, (nth t.mask p0 k).j = way t.mask (sHash w ds) k := fun k => by rw [← hway]
    have es_ : ∀ k, nth t.mask (nth t.mask p0 c) k = nth t.mask p0 (c + k) := fun k => (nth_add t.mask c _ k).symm
    rw [setSearchFrom_succ]
    refine wpAny_bind (wpAny_setState_of ho hd R.fits ?_)
    dsimp only
    refine wp_if_neg (by unfold SetTable.gaveWay; rw [R.m7]; decide) ?_
    try refine wpAny_bind (wpAny_pure ?_)
    rcases go_spec t R.tab.ris R.tab.dm (fun i => (es[i]?.map (·.1)).getD 0) (sHash w ds) (10 * SetTable.turns t.mask) (K - c) (nth t.mask p0 c) (nth_dummy _ _ _ (by rw [← hway]; rfl)) (by omega)
      (fun k hk => by rw [es_, ew]; exact hKb _ (by omega)) (by rw [es_, ew, show c + (K - c) = K by omega]; exact hK) with ⟨k, i, hk, hi, _, _, hpr⟩ | ⟨_, hpr⟩
    · have hpr' : t.probe (fun i => (es[i]?.map (·.1)).getD 0) (sHash w ds) (stand.getD (t.probeStart (sHash w ds))) = some (.candidate (nth t.mask (nth t.mask p0 c) k).j i (nth t.mask (nth t.mask p0 c) (k + 1))) := by rw [hst]; exact hpr
      rw [hpr']
      dsimp only
      have hil : i < L.length := by
        have h1 : i < t.place.toList.length := (List.getElem?_eq_some_iff.mp hi).1
        have h2 := R.tab.sz
        rw [List.length_map] at h2
        rw [Array.length_toList] at h1
        omega
      obtain ⟨p, hp⟩ : ∃ p, L[i]? = some p := ⟨_, List.getElem?_eq_getElem hil⟩
      obtain ⟨hpt, hne⟩ := hL p (List.mem_of_getElem? hp)
      have rest : wpAny (model P w) A (searchRest a (.ref b) (sHash w ds) true f es t (nth t.mask (nth t.mask p0 c) k).j i (nth t.mask (nth t.mask p0 c) (k + 1))) Q E s := by
        unfold searchRest
        rw [R.at_ hp]
        dsimp only
        refine wpAny_bind (wpAny_holding ((nestedKind P w).eqBool (x := .tup p.2) (y := .tup ds) hu hpt.is hx.is ?_))
        rw [decide_eq_false (fun z => hne (NestedKey.tup.inj z))]
        refine wpAny_bind (wpAny_setState_of ho hd R.fits ?_)
        dsimp only
        refine wp_if_neg (by simp) ?_
        try refine wpAny_bind (wpAny_pure ?_)
        rw [sameMem]
        dsimp only
        have hsl : t.slot (nth t.mask (nth t.mask p0 c) k).j = .live i := slot_live R.tab.ris hi
        simp only [if_true, hsl, R.at_ hp]
        refine wpAny_bind (wpAny_isSame_ref_self (wpAny_bind (wpAny_pure ?_)))
        simp only [if_true, Bool.false_eq_true, if_false]
        exact ih (c + (k + 1)) _ (by show nth t.mask (nth t.mask p0 c) (k + 1) = _; rw [es_]) (by omega) (by omega)
      by_cases hl : t.led = true
      · refine wp_if_neg (by simp [hl]) ?_
        try refine wpAny_bind (wpAny_pure ?_)
        exact rest
      · refine wp_if_pos (by simp [hl]) ?_
        refine wpAny_bind (not_seen hx (fun y hy => ?_) ?_)
        · obtain ⟨e, he, rfl⟩ := List.mem_map.mp hy
          have he2 : e ∈ es.toList := by simpa using (show e ∈ es ∧ e.1 = sHash w ds by simpa using he).1
          rw [R.rows] at he2
          obtain ⟨p2, hp2, rfl⟩ := List.mem_map.mp he2
          exact ⟨p2.2, p2.1, rfl, (hL p2 hp2).1⟩
        · refine wp_if_neg (by decide) ?_
          try refine wpAny_bind (wpAny_pure ?_)
          exact rest
    · have hpr' : t.probe (fun i => (es[i]?.map (·.1)).getD 0) (sHash w ds) (stand.getD (t.probeStart (sHash w ds))) = some (.empty (way t.mask (sHash w ds) K) none) := by
        have e2 : way t.mask (sHash w ds) K = (nth t.mask (nth t.mask p0 c) (K - c)).j := by rw [es_, ew, show c + (K - c) = K by omega]
        rw [hst, e2]
        exact hpr
      rw [hpr']
      dsimp only
      exact wpAny_pure q
theorem Fl.same {h h' : Heap} {o : Obj} (x : Fl h ds b) (ho : h.get? a = some o) (hd : o.data = .set es ep t) (hs : Heap.SameBut a h h') : Fl h' ds b := by
  refine ⟨x.1, NestedIs.at (fun c oc vs n hc hq => (hs.2 c fun e => ?_).trans hc) _ _ x.2⟩
  subst e
  rw [ho] at hc
  cases hc
  rw [hd] at hq
  cases hq
/-- set.add of what isn't there -/
theorem add_new (R : Sn w s.heap a L es ep t) (hL : ∀ p ∈ L, Fl s.heap p.2 p.1 ∧ p.2 ≠ ds) (hx : Fl s.heap ds b) (hu : A.units + 8 < cLine) (hfew : L.length + 1 ≤ 3) {Q : Bool → Shared → Prop}
    (hQ : ∀ r h' L' es' ep' t', Heap.SameBut a s.heap h' → Sn w h' a L' es' ep' t' → L'.Perm ((b, ds) :: L) → Q r { s with heap := h' }) :
    wpAny (model P w) A (setAddHashed a (.ref b) (sHash w ds)) Q E s := by
  obtain ⟨o, ho, hex, hd⟩ := R.ob
  have hsl := R.size
  have h7 := R.m7
  obtain ⟨K, hKf, hK, hKb⟩ := R.tab.first (by rw [List.length_map]; omega) (sHash w ds)
  have hbig : K < 100000 := by
    have : 10 * SetTable.turns t.mask ≤ 1420 := by
      unfold SetTable.turns
      rw [h7]
      decide
    omega
  unfold setAddHashed
  refine wpAny_holding ?_
  rw [show (100000 : Nat) = 99999 + 1 from rfl, setAddHashedIn_succ]
  refine wpAny_bind (wpAny_setState_of ho hd R.fits ?_)
  dsimp only
  refine wp_if_neg (by simp [byScan, Value.scannable]) ?_
  try refine wpAny_bind (wpAny_pure ?_)
  refine wpAny_bind ?_
  unfold setSearch
  refine find_free R hL hx hu hKf hK hKb ?_ 100000 0 none rfl (Nat.zero_le _) (by omega)
  dsimp only
  refine wpAny_bind (wpAny_setState_of ho hd R.fits ?_)
  dsimp only
  obtain ⟨q1, q2, q3, q4, q5, q6, q7, q8, q9⟩ := R.tab.put hK hKb
  generalize hpt : t.put (way t.mask (sHash w ds) K) = pt at q1 q3 q4 q5 q6 q7 q8 q9 ⊢
  obtain ⟨t1, p⟩ := pt
  dsimp only at q1 q3 q4 q5 q6 q7 q8 q9 ⊢
  subst q1
  generalize hpp : SetTable.below t.place (way t.mask (sHash w ds) K) = p at q2 q3 ⊢
  have hin : (SetTable.insertAt es p (sHash w ds, Value.ref b)).toList = rowsN w (L.take p ++ (b, ds) :: L.drop p) := by
    rw [SetTable.toList_insertAt, R.rows]
    unfold rowsN
    rw [List.map_append, List.map_cons, List.map_take, List.map_drop]
  have pm := put_perm L p (b, ds)
  have hhs : (L.take p ++ (b, ds) :: L.drop p).map (fun p => sHash w p.2) = (L.map fun p => sHash w p.2).take p ++ sHash w ds :: (L.map fun p => sHash w p.2).drop p := by
    rw [List.map_append, List.map_cons, List.map_take, List.map_drop]
  rw [← hhs] at q3
  generalize L.take p ++ (b, ds) :: L.drop p = L1 at pm q3 hin
  have hlen : L1.length = L.length + 1 := pm.length_eq
  have hes : (SetTable.insertAt es p (sHash w ds, Value.ref b)).size = L.length + 1 := by
    have h := congrArg List.length hin
    unfold rowsN at h
    rwa [Array.length_toList, List.length_map, hlen] at h
  generalize SetTable.insertAt es p (sHash w ds, Value.ref b) = es1 at hin hes ⊢
  have fin : ∀ t2 : SetTable, TabOk t2 (L1.map fun p => sHash w p.2) → t2.mask = 7 → t2.led = t.led → t2.fill = L.length + 1 →
      wpAny (model P w) A (do storeSet a es1 t2; (if (!false && t2.tooFull) = true then (do setRelay a (SetTable.grown (es.size + 1)); pure true) else pure true)) Q E s := by
    intro t2 tb m2 l2 f2
    refine wpAny_bind (wpAny_storeSet_of ho hd ?_ (by rw [hes, sizeLine_eq]; omega))
    have sb : Heap.SameBut a s.heap (s.heap.update a (Obj.putSet es1 t2)) := Heap.SameBut.update ..
    have ho1 := store_at (es' := es1) (t' := t2) ho hd
    generalize s.heap.update a (Obj.putSet es1 t2) = h1 at sb ho1 ⊢
    have hf : ¬ t2.tooFull = true := by
      intro h
      unfold SetTable.tooFull at h
      rw [decide_eq_true_eq, f2, m2] at h
      omega
    first
      | refine wp_if_neg (by simp [hf]) ?_
      | (refine wpAny_bind ?_; refine wp_if_neg (by simp [hf]) ?_; refine wpAny_pure ?_)
    exact wpAny_pure (hQ true h1 L1 es1 (ep + 1) t2 sb ⟨⟨_, ho1, ⟨hex.1, hex.2.1, hex.2.2⟩, rfl⟩, hin, tb, m2, by rw [l2]; exact R.led, by omega⟩ pm)
  have q9' : t1.fill = L.length + 1 := by rw [q9, List.length_map]
  have both : ∀ r : Bool, wpAny (model P w) A (do storeSet a es1 (if r = true then t1 else { t1 with plain := false }); (if (!false && (if r = true then t1 else { t1 with plain := false }).tooFull) = true then (do setRelay a (SetTable.grown (es.size + 1)); pure true) else pure true)) Q E s := by
    intro r
    cases r with
    | true => exact fin t1 q3 (q4.trans h7) q5 q9'
    | false => exact fin { t1 with plain := false } ⟨q3.ris, q3.dm, q3.sz, q3.mok, q3.bd, q3.reach⟩ (q4.trans h7) q5 q9'
  by_cases hp : t1.plain = true
  · exact wp_if_pos hp (wpAny_bind (by_value hx fun r => both r))
  · exact wp_if_neg hp (wpAny_bind (wpAny_pure (both true)))
theorem sn_fresh {h : Heap} (ho : h.get? a = some { cls := .type "set", dict := none, data := .set #[] 0 (.fresh 0 0 (!w.params.followText "set-order")) }) : Sn w h a [] #[] 0 (.fresh 0 0 (!w.params.followText "set-order")) where
  ob := ⟨_, ho, ⟨rfl, rfl, rfl⟩, rfl⟩
  rows := rfl
  tab := ⟨List.Pairwise.nil, rfl, rfl, .inl rfl, fun x hx => (by cases hx), fun i h j hi => (by simp at hi)⟩
  m7 := rfl
  led := by
    show _ ∨ (!w.params.followText "set-order") = true
    cases w.params.followText "set-order"
    · exact .inr rfl
    · exact .inl rfl
  few := Nat.zero_le _
end
end K67
end
/-! ## K67Set2 -/
section
set_option maxHeartbeats 4000000
/-! K67Set2: the set comprehension with two clauses, its elements flat tuples that all differ; sorted of it -/
namespace K67
open PySem PySem.Spec PyProof.Rows L2 LamX PySem.W
def SnO (w : World) (a : Addr) (L : List (Addr × List NestedKey)) : HO := .ext fun h => ∃ es ep t, Sn w h a L es ep t
def flatK (ds : List NestedKey) : Prop := ds.all Fl.atomB' = true
section
variable {P : Program} {w : World} {H : Hp} {h : Heap} {a : Addr} {L : List (Addr × List NestedKey)}
theorem sn_ok {es : Array (Int × Value)} {ep : Nat} {t : SetTable} (R : Sn w h a L es ep t) : ObjOk P w H h a (SnO w a L) := by
  have ⟨o, ho, _⟩ := R.ob
  refine ⟨⟨es, ep, t, R⟩, ⟨o, ho⟩, fun h1 h2 p k => ?_⟩
  obtain ⟨es', ep', t', R'⟩ := p
  obtain ⟨o', ho', r⟩ := R'.ob
  exact ⟨es', ep', t', ⟨o', k o' ho', r⟩, R'.rows, R'.tab, R'.m7, R'.led, R'.few⟩
theorem mu_SnO : Mu (some (SnO w a L)) := by
  refine ⟨fun _ z => (by unfold SnO at z; cases z), fun c q z => ?_, fun _ z => (by unfold SnO at z; cases z), fun _ _ z => (by unfold SnO at z; cases z)⟩
  unfold SnO CodeO at z
  injection z with z
  injection z with z
  let o : Obj := { cls := .none, data := .fields #[.none, .str q 0] }
  let hp : Heap := ⟨Array.replicate (max c a + 1) o, {}⟩
  have hg : ∀ b, b ≤ max c a → hp.get? b = some o := fun b hb => by
    show (match (Array.replicate (max c a + 1) o)[b]? with
      | some ⟨_, _, .freed, _⟩ => none
      | o => o) = some o
    rw [Array.getElem?_replicate, if_pos (Nat.lt_succ_of_le hb)]
  have yes : (∃ (oc : Obj) (vs : Array Value) (t : Tok), hp.get? c = some oc ∧ oc.data = .fields vs ∧ vs[1]? = some (.str q t)) := ⟨o, _, 0, hg c (Nat.le_max_left _ _), rfl, rfl⟩
  have e := congrFun z hp
  rw [← e] at yes
  obtain ⟨_, _, _, R⟩ := yes
  obtain ⟨o2, h1, _, h3⟩ := R.ob
  rw [hg a (Nat.le_max_right _ _)] at h1
  cases h1
  cases h3
end
theorem tp_fl {P : Program} {w : World} {H : Hp} {h : Heap} (ok : HOk P w H h) {b : Addr} {ds : List NestedKey} (t : Tp H (.ref b) (.tup ds)) (f : flatK ds) : Fl h ds b := ⟨f, Tp.nested ok _ _ _ t rfl⟩
/-- one element put into the set -/
def puts (w : World) (D : Addr) (Nx : Hp → Prop) : V → Hp → Prop := fun y H => ∃ L b ds, y = .ref b ∧ H D = some (SnO w D L) ∧ (∀ p ∈ L, Tp H (.ref p.1) (.tup p.2) ∧ flatK p.2 ∧ p.2 ≠ ds) ∧ Tp H (.ref b) (.tup ds) ∧ flatK ds ∧ L.length + 1 ≤ 3 ∧
  ∀ L', L'.Perm ((b, ds) :: L) → Nx (upd H D (SnO w D L'))
def tSc2 (w : World) (wi : TI) (g : TG) (wi1 : TI) (g1 : TG) (te : TE) (vs vs1 : List Nat) : TE := fun σ H Q => wi σ H fun J H1 => ∀ D, H1 D = none → ∃ W : Nat → Nat → Hp → Prop, (∃ m, W 0 m (upd H1 D (SnO w D []))) ∧ ∀ i m H, W i m H →
  (J.stop i H ∧ Q (.ref D) H) ∨ (J.go i H ∧ ∃ Nx : Hp → Prop, (∀ H', Nx H' → ∃ m', m' < m ∧ W (i + 1) m' H') ∧ ∀ x H', J.yld i H x H' → g x (wipe σ vs) H' fun σ2 H2 => wipe σ2 vs = wipe σ vs ∧
    wi1 σ2 H2 fun J1 H4 => ∃ W1 : Nat → Nat → Hp → Prop, (∃ m, W1 0 m H4) ∧ ∀ j k H, W1 j k H →
      (J1.stop j H ∧ Nx H) ∨ (J1.go j H ∧ ∃ Nx1 : Hp → Prop, (∀ H', Nx1 H' → ∃ k', k' < k ∧ W1 (j + 1) k' H') ∧ ∀ x H', J1.yld j H x H' → g1 x (wipe σ2 vs1) H' fun σ3 H5 => wipe σ3 vs1 = wipe σ2 vs1 ∧
        te σ3 H5 (puts w D Nx1)))
section
variable {X : Cx} {pins : List (Addr × Obj)} {σ : L2.St} {H : Hp} {s : Shared}
theorem sadd_ok {E : Value → Shared → Prop} {D : Addr} {y : V} {v : Value} {Nx : Hp → Prop} {Q : Value → Shared → Prop} (hu : X.A.units + 16 < cLine) (I : Inv X pins σ H s) (r : RelV y v) (hp : puts X.w D Nx y H)
    (h : ∀ s' H', Inv X pins σ H' s' → Nx H' → Q .none s') : wpAny (model X.prog X.w) X.A (call (.builtin "set.add") [.ref D, v]) Q E s := by
  obtain ⟨L, b, ds, rfl, hD, hL, tb, fb, hfew, k⟩ := hp
  obtain rfl : v = Value.ref b := r
  obtain ⟨⟨es, ep, t, R⟩, _⟩ := I.hok D _ hD
  obtain ⟨o, ho, hex, hd⟩ := R.ob
  have hb := tp_fl I.hok tb fb
  refine wpAny_call_entry F.slot_set_add (T := "set") ⟨o, ho, hex.1⟩ F.entry_set_add ?_ (F.args_set_add_2 _ _)
  show wpAny _ _ (Builtin.«set.add» ⟨[.ref D, .ref b], []⟩) _ _ s
  unfold Builtin.«set.add» Builtin.Frozenset.oneOther
  simp only [List.isEmpty_nil, bind_assoc]
  unfold Builtin.Frozenset.addrOf setAdd
  refine wpAny_bind (wpAny_pure ?_)
  try dsimp only
  refine wpAny_bind (wpAny_pure ?_)
  try dsimp only
  refine wpAny_bind ?_
  refine wpAny_holding ?_
  refine wpAny_bind ((nestedKind X.prog X.w).pyHash (k := .tup ds) (by show X.A.units + 1 + 8 < cLine; omega) hb.is ?_)
  refine add_new (s := { s with toks := s.toks + (nestedKind X.prog X.w).draws (.tup ds) }) R (fun p hp => ⟨tp_fl I.hok (hL p hp).1 (hL p hp).2.1, (hL p hp).2.2⟩) hb (by show X.A.units + 1 + 8 < cLine; omega) hfew fun r h' L' es' ep' t' sb R' pm => ?_
  refine wpAny_pure ⟨_, rfl, ?_⟩
  have he : ∃ u, h'.get? D = some u := let ⟨o, ho, _⟩ := R'.ob; ⟨o, ho⟩
  exact h _ _ (I.write (e := D) (by rw [hD]; trivial) (.inl rfl) (fun b u hb hu => (sb.2 b hb).trans hu) he (sn_ok R')) (k L' pm)
end
/-! ### the loops -/
section
variable {prog : Program} {w : World} {A : Around} {R : Result → Shared → Prop} {s : Shared} {elt t0 i0 t1 i1 : Expr} {scope : Scope} {pos : Pos} {it acc : Value} {env : Env}
abbrev scE (elt t0 i0 t1 i1 : Expr) (scope : Scope) (pos : Pos) : Expr := .SetComp elt [⟨t0, i0, [], 0⟩, ⟨t1, i1, [], 0⟩] scope pos
theorem turn_out : compTurn (scE elt t0 i0 t1 i1 scope pos) 0 it acc env = (do
    standAt i0.pos
    match ← pyNext it with
    | none => pure (.done .next)
    | some v =>
      letOwnedTupleGo t0 it v
      assign t0 env v
      let x ← eval i1 env
      standAt i1.pos
      let x ← foldedSetIterable i1 env x
      let _ ← runOwn (.compStart (scE elt t0 i0 t1 i1 scope pos) 1 (← holding [x] (pyIter x)) acc env) env
      again (.compLoop (scE elt t0 i0 t1 i1 scope pos) 0 it acc env)) := by rfl
theorem turn_in : compTurn (scE elt t0 i0 t1 i1 scope pos) 1 it acc env = (do
    standAt i1.pos
    match ← pyNext it with
    | none => pure (.done .next)
    | some v =>
      letOwnedTupleGo t1 it v
      assign t1 env v
      (do let x ← eval elt env; standAt elt.pos; let _ ← call (.builtin "set.add") [acc, x])
      again (.compLoop (scE elt t0 i0 t1 i1 scope pos) 1 it acc env)) := by rfl
abbrev nb (prog : Program) (w : World) (A : Around) (env : Env) (R : Result → Shared → Prop) : Value → Shared → Prop := notedBy (model prog w) A env fun e s' => R (.error e) s'
theorem loop_out (hs : ∀ x, foldedSetIterable i1 env x = pure x) (I : Nat → Shared → Prop)
    (turn : ∀ n s, I n s → wpAny (model prog w) A (pyNext it) (fun r s₁ => match r with
      | none => R (.ok .next) s₁
      | some v => wpAny (model prog w) A (letOwnedTupleGo t0 it v) (fun _ s₁' => wpAny (model prog w) A (assign t0 env v) (fun _ s₂ =>
          wpAny (model prog w) A (eval i1 env) (fun x s₄ => wpAny (model prog w) A (pyIter x) (fun it1 s₅ =>
              codeAny (model prog w) A (.compStart (scE elt t0 i0 t1 i1 scope pos) 1 it1 acc env) (fun r s' => match r with
                | .ok _ => ∃ m, m < n ∧ I m s'
                | .error _ => False) s₅) (nb prog w A env R) s₄) (nb prog w A env R) s₂) (nb prog w A env R) s₁') (nb prog w A env R) s₁) (nb prog w A env R) s)
    (n : Nat) (h : I n s) : codeAny (model prog w) A (.compLoop (scE elt t0 i0 t1 i1 scope pos) 0 it acc env) R s := by
  refine codeAny_loop rfl I (fun n s hI => ?_) n h
  show wpAny _ A ((compTurn (scE elt t0 i0 t1 i1 scope pos) 0 it acc env).onRaise (fun x => do noteFrame x env; theTreesLotGoes x)) _ _ s
  refine wpAny_noted ?_
  rw [turn_out]
  refine wpAny_bind (wpAny_standAt (wpAny_bind (wpAny_mono (turn n s hI) (fun r s₁ h₁ => ?_) fun _ _ h' => h')))
  cases r with
  | none => exact wpAny_pure h₁
  | some v =>
    refine wpAny_bind (wpAny_mono h₁ (fun _ s₁' h₁' => ?_) fun _ _ h' => h')
    refine wpAny_bind (wpAny_mono h₁' (fun _ s₂ h₂ => ?_) fun _ _ h' => h')
    refine wpAny_bind (wpAny_mono h₂ (fun x s₄ h₄ => ?_) fun _ _ h' => h')
    refine wpAny_bind (wpAny_standAt (wpAny_bind (wpAny_of_eq (hs x) (wpAny_bind (wpAny_holding (wpAny_mono h₄ (fun it1 s₅ h₅ => ?_) fun _ _ h' => h'))))))
    refine wpAny_bind (wpAny_runOwn ?_)
    rw [Around.mark_none]
    refine codeAny_mono h₅ fun r s' hr => ?_
    cases r with
    | ok f => exact wpAny_pure ⟨rfl, hr⟩
    | error e => exact hr.elim
theorem loop_in (I : Nat → Shared → Prop)
    (turn : ∀ n s, I n s → wpAny (model prog w) A (pyNext it) (fun r s₁ => match r with
      | none => R (.ok .next) s₁
      | some v => wpAny (model prog w) A (letOwnedTupleGo t1 it v) (fun _ s₁' => wpAny (model prog w) A (assign t1 env v) (fun _ s₂ =>
          wpAny (model prog w) A (eval elt env) (fun x s₄ => wpAny (model prog w) A (call (.builtin "set.add") [acc, x]) (fun _ s₅ => ∃ m, m < n ∧ I m s₅) (nb prog w A env R) s₄) (nb prog w A env R) s₂) (nb prog w A env R) s₁') (nb prog w A env R) s₁) (nb prog w A env R) s)
    (n : Nat) (h : I n s) : codeAny (model prog w) A (.compLoop (scE elt t0 i0 t1 i1 scope pos) 1 it acc env) R s := by
  refine codeAny_loop rfl I (fun n s hI => ?_) n h
  show wpAny _ A ((compTurn (scE elt t0 i0 t1 i1 scope pos) 1 it acc env).onRaise (fun x => do noteFrame x env; theTreesLotGoes x)) _ _ s
  refine wpAny_noted ?_
  rw [turn_in]
  refine wpAny_bind (wpAny_standAt (wpAny_bind (wpAny_mono (turn n s hI) (fun r s₁ h₁ => ?_) fun _ _ h' => h')))
  cases r with
  | none => exact wpAny_pure h₁
  | some v =>
    refine wpAny_bind (wpAny_mono h₁ (fun _ s₁' h₁' => ?_) fun _ _ h' => h')
    refine wpAny_bind (wpAny_mono h₁' (fun _ s₂ h₂ => ?_) fun _ _ h' => h')
    exact wpAny_bind (wpAny_bind (wpAny_mono h₂ (fun x s₄ h₄ => wpAny_bind (wpAny_standAt (wpAny_bind (wpAny_mono h₄ (fun _ s₅ h₅ => wpAny_pure (wpAny_pure ⟨rfl, h₅⟩)) fun _ _ h' => h')))) fun _ _ h' => h'))
theorem start_in (h0 : codeAny (model prog w) A (.compLoop (scE elt t0 i0 t1 i1 scope pos) 1 it acc env) R s)
    (h : wpAny (model prog w) A (pyIter it) (fun it' s' => codeAny (model prog w) A (.compLoop (scE elt t0 i0 t1 i1 scope pos) 1 it' acc env) R s') (nb prog w A env R) s) :
    codeAny (model prog w) A (.compStart (scE elt t0 i0 t1 i1 scope pos) 1 it acc env) R s := by
  refine codeAny_of_tree ?_
  show wpAny _ _ ((compStart (scE elt t0 i0 t1 i1 scope pos) 1 it acc env).onRaise (fun x => do noteFrame x env; standAt theWindowsPlace)) _ _ s
  refine wpAny_notedAt ?_
  unfold compStart
  show wpAny _ _ (ask >>= _) _ _ s
  refine wpAny_bind (wpAny_askSetting (wpAny_ite ?_))
  split
  · first
      | exact wpAny_bind (wpAny_pure (wpAny_pure (And.intro rfl h0)))
      | exact wpAny_pure (And.intro rfl h0)
  · refine wpAny_bind (wpAny_rule ?_)
    show wpAny _ _ (standAt i1.pos >>= _) _ _ s
    exact wpAny_bind (wpAny_standAt (wpAny_bind (wpAny_mono h (fun it' s' h' => wpAny_pure (And.intro rfl h')) fun _ _ x => x)))
end
end K67
end
/-! ## K67Set3 -/
section
set_option maxHeartbeats 4000000
/-! K67Set3: the set comprehension as a value; sorted(set) -/
namespace K67
open PySem PySem.Spec PyProof.Rows L2 LamX PySem.W
section
variable {X : Cx} {w : World}
theorem pe_sc2 {elt tg iter tg1 iter1 : Expr} {scope : Scope} {own : List (Str × Nat)} {vs1 : List Nat} {pos : Pos} {wi wi1 : TI} {g g1 : TG} {te : TE} (hw : X.w = w) (hu : X.A.units + 16 < cLine) (hc : X.calm = true) (hN : X.N.Nodup) (hi : PI X tg iter wi) (ok : BlkOk X.N X.env.scope scope own) (hv : ∀ i ∈ vs1, i ∈ own.map (·.2))
    (hg : ∀ (s : Shared) (H : Hp) (C : Addr) (cl : List (Str × Addr)) (fp : List Addr), PG (X.blk s H scope (compEnvC scope cl C X.env) fp) tg g)
    (hi1 : ∀ (s : Shared) (H : Hp) (C : Addr) (cl : List (Str × Addr)) (fp : List Addr), PI (X.blk s H scope (compEnvC scope cl C X.env) fp) tg1 iter1 wi1)
    (hg1 : ∀ (s : Shared) (H : Hp) (C : Addr) (cl : List (Str × Addr)) (fp : List Addr), PG (X.blk s H scope (compEnvC scope cl C X.env) fp) tg1 g1)
    (he : ∀ (s : Shared) (H : Hp) (C : Addr) (cl : List (Str × Addr)) (fp : List Addr), PE (X.blk s H scope (compEnvC scope cl C X.env) fp) elt te) (hs : ∀ x, foldedSetIterable iter X.env x = pure x := by intro _; rfl) (hs1 : ∀ env x, foldedSetIterable iter1 env x = pure x := by intro _ _; rfl) :
    PE X (scE elt tg iter tg1 iter1 scope pos) (tSc2 w wi g wi1 g1 te (own.map (·.2)) vs1) := by
  subst hw
  refine ⟨fun pins s σ H Q I h => ?_⟩
  rw [arm_eval_SetComp]
  have hfree : ∀ y ∈ scope.names, y.2 = .free → ∃ c, X.env.cells.lookup y.1 = some c := fun y hy e => by
    rcases ok.free y hy e with k | k
    · exact I.ok.has _ (.inl k)
    · exact I.ok.has _ (.inr k)
  refine wpAny_comprehension_free (use := none) rfl hs (closure_ok hfree) ok.kind (fun y hy e => by rw [ok.uniq y hy, e])
    (thn (hi.run pins s σ H _ I h) fun xv s1 hx => thn hx fun itv s2 h2 => ?_)
  obtain ⟨it, fp, tn, J, H2, rfl, I2, T, st2, f2, q⟩ := h2
  refine wpAny_newSet_raw fun led hled => newEnv_comp ?_
  subst hled
  generalize hD : s2.heap.objs.size = D
  have hDn : H2 D = none := I2.hok.fresh (Nat.le_of_eq hD)
  obtain ⟨W, ⟨m0, w0⟩, turn⟩ := q D hDn
  -- the new set
  generalize hs3 : ({ s2 with heap := s2.heap.push { cls := .type "set", dict := none, data := .set #[] 0 (.fresh 0 0 (!X.w.params.followText "set-order")) } } : Shared) = s3
  have I3 : Inv X pins σ (upd H2 D (SnO X.w D [])) s3 := by
    rw [← hs3]
    refine I2.laid (t' := s2.toks) (fun b o e => Heap.get?_push_of_some _ e) (Nat.le_of_eq hD) ?_
    rw [← hD]
    exact sn_ok (sn_fresh (Heap.get?_push_size _ rfl))
  have k3 : ∀ b o, s2.heap.get? b = some o → s3.heap.get? b = some o := fun b o e => by rw [← hs3]; exact Heap.get?_push_of_some _ e
  have z3 : s3.heap.objs.size = s2.heap.objs.size + 1 := by rw [← hs3]; exact Heap.size_push ..
  generalize hH3 : upd H2 D (SnO X.w D []) = H3 at I3 w0
  have f3 : ∀ b ∈ fp, FpOk X pins H3 b ∧ b < s3.heap.objs.size := fun b hb => by
    obtain ⟨o, e, _⟩ := T.obj _ _ st2 b hb
    have hlt := Heap.lt_size e
    refine ⟨⟨?_, (f2 b hb).2⟩, by rw [z3]; exact Nat.lt_succ_of_lt hlt⟩
    rw [← hH3, upd_ne (by rw [← hD]; exact Nat.ne_of_lt hlt)]
    exact (f2 b hb).1
  have I4 := block_start I3 ok hN f3
  generalize hcl : cellsFrom (s3.heap.objs.size + 1) scope.names (cloFrom X.env.cells scope.names []) = cl at I4
  have pg := hg s3 H3 s3.heap.objs.size cl fp
  have pe := he s3 H3 s3.heap.objs.size cl fp
  have pi1 := hi1 s3 H3 s3.heap.objs.size cl fp
  have pg1 := hg1 s3 H3 s3.heap.objs.size cl fp
  subst hcl
  show codeAny _ _ (.compStart (scE elt tg iter tg1 iter1 scope pos) 0 (.ref it) (.ref D) (compEnvC scope (cellsFrom (s3.heap.objs.size + 1) scope.names (cloFrom X.env.cells scope.names [])) s3.heap.objs.size X.env)) (compPost (model X.prog X.w) X.A X.xe none (EP X pins σ Q) (.ref D) s3.heap.objs.size) { s3 with heap := pushCells (s3.heap.push { cls := .type "dict", data := .dict #[] }) scope.names }
  generalize hce : compEnvC scope (cellsFrom (s3.heap.objs.size + 1) scope.names (cloFrom X.env.cells scope.names [])) s3.heap.objs.size X.env = ce at I4 pg pe pi1 pg1 ⊢
  have cL : ce.locals = s3.heap.objs.size := by subst hce; rfl
  have nfp : ∀ b ∈ fp, H3 b = none := fun b hb => (f3 b hb).1.1
  generalize hs4 : ({ s3 with heap := pushCells (s3.heap.push { cls := .type "dict", data := .dict #[] }) scope.names } : Shared) = s4 at I4 ⊢
  have st4 : tn 0 s4.heap := T.keep _ _ _ st2 fun b _ o e => by rw [← hs4]; exact pushCells_keeps _ _ _ _ (Heap.get?_push_of_some _ (k3 b o e))
  let Y := X.blk s3 H3 scope ce fp
  have stat : ∀ {σ' : L2.St} {H' : Hp} {s' : Shared}, Inv Y [] σ' H' s' → (∀ b ∈ fp, H' b = none) → ∀ b ∈ fp, FpOk Y [] H' b := fun {σ' H' s'} I' hn b hb =>
    ⟨hn b hb, (I'.ok.exf b hb).1, I'.ok.exfs b hb, .inl hb, fun x c e => (I'.ok.exf b hb).2 x c e, fun p hp => absurd (show p ∈ ([] : List (Addr × Obj)) ++ [] from hp) (by simp)⟩
  -- where the outer loop stands
  let At : Nat → Shared → Prop := fun n s' => ∃ i H', Inv Y [] (wipe σ (own.map (·.2))) H' s' ∧ tn i s'.heap ∧ (∀ b ∈ fp, H' b = none) ∧ W i n H'
  have loop : codeAny (model X.prog X.w) X.A (.compLoop (scE elt tg iter tg1 iter1 scope pos) 0 (.ref it) (.ref D) ce) (compPost (model X.prog X.w) X.A X.xe none (EP X pins σ Q) (.ref D) s3.heap.objs.size) s4 := by
    refine loop_out (hs1 ce) At ?_ m0 ⟨0, H3, I4, st4, nfp, w0⟩
    rintro n s5 ⟨i, H5, I5, st5, n5, w5⟩
    rcases turn i n H5 w5 with ⟨stop, qq⟩ | ⟨go, Nx, hNx, step⟩
    · refine thnF (T.done Y rfl rfl rfl hc i [] s5 _ H5 (fun _ _ => False) I5 (stat I5 n5) st5 stop) fun r s6 ⟨hr, I6⟩ => ?_
      subst hr
      have I7 : Inv X pins σ H5 s6 := I3.call' (ch := fp) I6.os I6.base I6.hok I6.bare fun b hb => ⟨(f3 b hb).1.2.2.2.1, (f3 b hb).1.2.1, (f3 b hb).1.2.2.2.2.1, (f3 b hb).1.2.2.2.2.2⟩
      have nC : H5 s3.heap.objs.size = none := by
        have z : H5 ce.locals = none := I6.free
        rwa [cL] at z
      obtain ⟨m, hn, _⟩ := I6.loc
      have hn : s6.heap.Ns ce.locals m := hn
      rw [cL] at hn
      obtain ⟨g0, g1', g2, g3, g4, g5⟩ := I3.fpOk (Nat.le_refl _) nC
      exact ⟨m, hn, fun h'' sb => ⟨.ref D, H5, I7.turned (t' := s6.toks) (fun b o hb e => (sb.2 b hb).trans e) g0 g1' g3 g4 g5, rfl, qq⟩⟩
    · refine thnF (T.item Y rfl rfl rfl hc i [] s5 _ H5 (fun _ _ => False) I5 (stat I5 n5) st5 go) fun r s6 ⟨u, hr, h6⟩ => ?_
      subst hr
      refine thnF h6 fun _ s7 ⟨x, H7, I7, r7, y7, st7, n7⟩ => ?_
      refine thnF (pg.run _ s7 _ H7 x u _ (I7.pinned (stat I7 n7) (T.obj _ _ st7)) r7 (step x H7 y7)) fun _ s9 ⟨σ8, H9, I9, hw8, q9⟩ => ?_
      refine thnF (pi1.run _ s9 σ8 H9 _ I9 q9) fun xv s10 hx => thnF hx fun itv s11 h11 => ?_
      obtain ⟨it1, fp1, tn1, J1, H11, rfl, I11, T1, st11, f11, W1, ⟨m1, w1⟩, turn1⟩ := h11
      have stat1 : ∀ {H' : Hp}, (∀ b ∈ fp1, H' b = none) → ∀ b ∈ fp1, FpOk Y ([] ++ pinsAt fp s7.heap) H' b := fun hn b hb => ⟨hn b hb, (f11 b hb).2⟩
      have loop1 : codeAny (model X.prog X.w) X.A (.compLoop (scE elt tg iter tg1 iter1 scope pos) 1 (.ref it1) (.ref D) ce) (fun r s' => match r with
          | .ok _ => ∃ m, m < n ∧ At m s'
          | .error _ => False) s11 := by
        refine loop_in (fun k s' => ∃ j H', Inv Y ([] ++ pinsAt fp s7.heap) (wipe σ8 vs1) H' s' ∧ tn1 j s'.heap ∧ (∀ b ∈ fp1, H' b = none) ∧ W1 j k H') ?_ m1 ⟨0, H11, I11.weak (wipe_length _ _) (fun j v e => (wipe_some e).1), st11, fun b hb => (f11 b hb).1, w1⟩
        rintro k s12 ⟨j, H12, I12, st12, n12, w12⟩
        rcases turn1 j k H12 w12 with ⟨stop1, nx1⟩ | ⟨go1, Nx1, hNx1, step1⟩
        · refine thnF (T1.done Y rfl rfl rfl hc j _ s12 (wipe σ8 vs1) H12 (fun _ _ => False) I12 (stat1 n12) st12 stop1) fun r s13 ⟨hr, I13⟩ => ?_
          subst hr
          obtain ⟨m', hm, w'⟩ := hNx H12 nx1
          have pin' : ∀ b ∈ fp, ∀ o, s7.heap.get? b = some o → s13.heap.get? b = some o ∧ H12 b = none := fun b hb o e =>
            let z := I13.pin (b, o) (List.mem_append_right _ (List.mem_append_right _ (mem_pinsAt hb e)))
            ⟨z.1, z.2.1⟩
          refine ⟨m', hm, i + 1, H12, (I13.unpinned (pins := [])).weak (by have z := congrArg List.length hw8; simp only [wipe_length] at z ⊢; exact z.symm) (fun j v e => ?_), T.keep _ _ _ st7 fun b hb o e => (pin' b hb o e).1, fun b hb => ?_, w'⟩
          · rw [← hw8] at e
            obtain ⟨e1, e2⟩ := wipe_some e
            rw [wipe_out fun z => e2 (hv j z)]
            exact e1
          · obtain ⟨o, e, _⟩ := T.obj _ _ st7 b hb
            exact (pin' b hb o e).2
        · refine thnF (T1.item Y rfl rfl rfl hc j _ s12 (wipe σ8 vs1) H12 (fun _ _ => False) I12 (stat1 n12) st12 go1) fun r s13 ⟨u1, hr, h13⟩ => ?_
          subst hr
          refine thnF h13 fun _ s14 ⟨x1, H14, I14, r14, y14, st14, n14⟩ => ?_
          refine thnF (pg1.run _ s14 (wipe σ8 vs1) H14 x1 u1 _ (I14.pinned (stat1 n14) (T1.obj _ _ st14)) r14 (step1 x1 H14 y14)) fun _ s16 ⟨σ15, H16, I16, hw15, q16⟩ => ?_
          refine thnF (pe.run _ s16 σ15 H16 _ I16 q16) fun z s17 ⟨yv, H17, I17, r17, pu⟩ => ?_
          refine sadd_ok (X := Y) hu I17 r17 pu fun s18 H18 I18 nx => ?_
          obtain ⟨m', hm, w'⟩ := hNx1 H18 nx
          have pin' : ∀ b ∈ fp1, ∀ o, s14.heap.get? b = some o → s18.heap.get? b = some o ∧ H18 b = none := fun b hb o e =>
            let z := I18.pin (b, o) (List.mem_append_right _ (List.mem_append_right _ (mem_pinsAt hb e)))
            ⟨z.1, z.2.1⟩
          refine ⟨m', hm, j + 1, H18, I18.unpinned.weak (by rw [← hw15, wipe_length]) (fun j v e => by rw [← hw15] at e; exact (wipe_some e).1), T1.keep _ _ _ st14 fun b hb o e => (pin' b hb o e).1, fun b hb => ?_, w'⟩
          obtain ⟨o, e, _⟩ := T1.obj _ _ st14 b hb
          exact (pin' b hb o e).2
      exact start_in loop1 (T1.self X.A 0 _ _ _ st11 loop1)
  exact codeAny_compStart_set loop (T.self X.A 0 _ _ _ st4 loop)
/-! ### sorted(set) -/
/-- sorted of such a set whose elements are alike: the elements in order -/
def rSortSn (T : List (Addr × Str)) (w : World) : List V → Hp → VK → Prop := fun vs H Q => ∃ a L, vs = [V.ref a] ∧ H a = some (SnO w a L) ∧ (∀ p ∈ L, Tp H (.ref p.1) (.tup p.2) ∧ flatK p.2) ∧ (∀ p ∈ L, (NestedKey.tup p.2).data.depth ≤ 50) ∧
  AllAlike (L.map fun p => (NestedKey.tup p.2).data) ∧ Sortable (L.map fun p => (NestedKey.tup p.2).data) ∧
  ∀ (L' : List (Addr × List NestedKey)) (p : Addr), L'.Perm L → H p = none → Q (.ref p) (upd H p (.lst ((L'.mergeSort (dataLe false fun p => (NestedKey.tup p.2).data)).map fun q => V.ref q.1)))
theorem cr_sortSn {T : List (Addr × Str)} (hw : X.w = w) (hc : X.calm = true) (hu : X.A.units + 64 < cLine) : CallR X (.builtin "sorted") (rSortSn T w) := by
  subst hw
  intro pins s σ H vs us Q I r h
  obtain ⟨a, L, rfl, ha, hL, hdp, hal, hsk, k⟩ := h
  obtain rfl := Vals.ref1 r
  obtain ⟨⟨es, ep, t, R⟩, _⟩ := I.hok a _ ha
  obtain ⟨o, ho, hex, hd⟩ := R.ob
  have hsz := R.size
  have hfew := R.few
  refine Calls.call_function_entry kind_sorted plain_sorted entry_sorted (args_sorted1 _) ?_
  unfold Builtin.«sorted»
  refine wpAny_bind (m := checkCount "sorted" 1 1 _) (wpAny_pure ?_)
  refine wpAny_bind (collect_set (A := X.A.in1) (I.ok.hd hc) ⟨o, ho, hex.1, hd⟩ R.fits (by unfold scanBound; omega) R.tab.ris R.led fun s1 vs k1 hz g1 o1 pm => ?_)
  have hes : es.toList.map (·.2) = L.map fun q => Value.ref q.1 := by
    rw [R.rows]
    unfold rowsN
    rw [List.map_map]
    rfl
  rw [hes] at pm
  -- what was collected: the set's elements in some order
  obtain ⟨L1, e1, p1⟩ : ∃ L1 : List (Addr × List NestedKey), vs = L1.map (fun q => Value.ref q.1) ∧ L1.Perm L := by
    have key : ∀ {vs ws : List Value}, vs.Perm ws → ∀ L : List (Addr × List NestedKey), ws = L.map (fun q => Value.ref q.1) → ∃ L1 : List (Addr × List NestedKey), vs = L1.map (fun q => Value.ref q.1) ∧ L1.Perm L := by
      intro vs ws p
      induction p with
      | nil => intro L e; exact ⟨L, e, .refl _⟩
      | cons x _ ih =>
        intro L e
        cases L with
        | nil => cases e
        | cons q L =>
          rw [List.map_cons] at e
          injection e with e1 e2
          obtain ⟨L1, f1, f2⟩ := ih L e2
          exact ⟨q :: L1, by rw [List.map_cons, e1, f1], f2.cons q⟩
      | swap x y l =>
        intro L e
        match L, e with
        | q :: r :: L, e =>
          rw [List.map_cons, List.map_cons] at e
          injection e with e1 e2
          injection e2 with e2 e3
          exact ⟨r :: q :: L, by rw [List.map_cons, List.map_cons, e1, e2, e3], .swap _ _ _⟩
      | trans _ _ ih1 ih2 =>
        intro L e
        obtain ⟨L2, f1, f2⟩ := ih2 L e
        obtain ⟨L3, f3, f4⟩ := ih1 L2 f1
        exact ⟨L3, f3, f4.trans f2⟩
    exact key pm L rfl
  have hvl : vs.length ≤ 3 := by rw [pm.length_eq, List.length_map]; exact hfew
  have hl1 : L1.length ≤ 3 := by rw [p1.length_eq]; exact hfew
  refine wpAny_bind (wpAny_newList ?_ (by rw [sizeLine_eq]; omega))
  have hoL : (s1.heap.push (seqObj "list" vs.toArray 0)).get? s1.heap.objs.size = some (seqObj "list" vs.toArray 0) := Heap.get?_push_size _ rfl
  have kp : ∀ b o, s.heap.get? b = some o → (s1.heap.push (seqObj "list" vs.toArray 0)).get? b = some o := fun b o e => Heap.get?_push_of_some _ (k1 b o e)
  -- the elements read as data
  have rd : ∀ q ∈ L1, ∃ as, Reads (s1.heap.push (seqObj "list" vs.toArray 0)) (.ref q.1) (NestedKey.tup q.2).data as ∧ s1.heap.objs.size ∉ as := fun q hq => by
    have := Tp.reads I.hok _ _ _ (hL q (p1.mem_iff.mp hq)).1 rfl
    exact ⟨[], PyProof.Rows.Reads.keeps kp this, by simp⟩
  have each : ∀ {R : Value → (Addr × List NestedKey) → Prop} (L2 : List (Addr × List NestedKey)), (∀ q ∈ L2, R (.ref q.1) q) → EachIs R (L2.map fun q => Value.ref q.1) L2 := by
    intro R L2
    induction L2 with
    | nil => intro _; exact .nil
    | cons q L2 ih => intro h; exact .cons (h q List.mem_cons_self) (ih fun p hp => h p (List.mem_cons_of_mem _ hp))
  have hal1 : AllAlike (L1.map fun p => (NestedKey.tup p.2).data) := fun x hx y hy => hal x ((p1.map _).mem_iff.mp hx) y ((p1.map _).mem_iff.mp hy)
  have hsk1 : Sortable (L1.map fun p => (NestedKey.tup p.2).data) := by
    rcases hsk with z | z
    · exact .inl fun d hd => z d ((p1.map _).mem_iff.mp hd)
    · exact .inr fun d hd => z d ((p1.map _).mem_iff.mp hd)
  have er : EachIs (fun v (b : Addr × List NestedKey) => ∃ as, Reads (s1.heap.push (seqObj "list" vs.toArray 0)) v (NestedKey.tup b.2).data as ∧ s1.heap.objs.size ∉ as) vs L1 := by
    have z := each (R := fun v (b : Addr × List NestedKey) => ∃ as, Reads (s1.heap.push (seqObj "list" vs.toArray 0)) v (NestedKey.tup b.2).data as ∧ s1.heap.objs.size ∉ as) L1 rd
    rw [← e1] at z
    exact z
  refine wpAny_bind (wpAny_holding (list_sort_data (A := X.A.in1) (s := { s1 with heap := s1.heap.push (seqObj "list" vs.toArray 0) }) (R := fun v q => v = Value.ref q.1) (bs := L1) (enc := fun p => (NestedKey.tup p.2).data) hoL (by rw [e1]; exact each L1 fun q _ => rfl) er hal1 hsk1 (by rw [sizeLine_eq]; omega)
    (fun b hb => ?_) fun out hl he => ?_))
  · have hdep := hdp b (p1.mem_iff.mp hb)
    show X.A.units + 1 + 1 + _ < cLine
    omega
  · obtain ⟨c, hc'⟩ := sortedHeap_at (vs := vs) (out := out.toArray) hoL
    have e3 : out = (L1.mergeSort (dataLe false fun p => (NestedKey.tup p.2).data)).map fun q => Value.ref q.1 := by
      have key : ∀ {o : List Value} {l : List (Addr × List NestedKey)}, EachIs (fun v q => v = Value.ref q.1) o l → o = l.map fun q => Value.ref q.1 := by
        intro o l x
        induction x with
        | nil => rfl
        | cons h _ ih => rw [List.map_cons, h, ih]
      exact key he
    have kk : ∀ b o, s.heap.get? b = some o → (sortedHeap (s1.heap.push (seqObj "list" vs.toArray 0)) s1.heap.objs.size vs out.toArray).get? b = some o := fun b o e => by
      have q := k1 b o e
      have hlt := Heap.lt_size q
      rw [sortedHeap_old (Nat.ne_of_lt hlt) (by rw [size_push']; exact Nat.lt_succ_of_lt hlt)]
      exact Heap.get?_push_of_some _ q
    have hn : H s1.heap.objs.size = none := I.hok.fresh hz
    have hv : Vals ((L1.mergeSort (dataLe false fun p => (NestedKey.tup p.2).data)).map fun q => V.ref q.1) out := by
      rw [e3]
      generalize L1.mergeSort (dataLe false fun p => (NestedKey.tup p.2).data) = l
      induction l with
      | nil => exact .nil
      | cons q l ih => exact .cons rfl ih
    have hlen : ((L1.mergeSort (dataLe false fun p => (NestedKey.tup p.2).data)).map fun q => V.ref q.1).length ≤ sizeLine := by rw [List.length_map, List.length_mergeSort, sizeLine_eq]; omega
    have J : Inv X pins σ (upd H s1.heap.objs.size (.lst ((L1.mergeSort (dataLe false fun p => (NestedKey.tup p.2).data)).map fun q => V.ref q.1))) { s with heap := sortedHeap (s1.heap.push (seqObj "list" vs.toArray 0)) s1.heap.objs.size vs out.toArray, gens := s1.gens, drawn := s1.drawn, toks := s1.toks } :=
      I.call (ch := []) (Un.laid kk hz hn) (I.hok.laid kk hz ⟨hlen, out, c, hv, hc'⟩) (by rw [g1]; exact I.bare) (fun _ z => nomatch z)
    have e : ({ s1 with heap := sortedHeap (s1.heap.push (seqObj "list" vs.toArray 0)) s1.heap.objs.size vs out.toArray } : Shared) = { s with heap := sortedHeap (s1.heap.push (seqObj "list" vs.toArray 0)) s1.heap.objs.size vs out.toArray, gens := s1.gens, drawn := s1.drawn, toks := s1.toks } := by
      cases s1
      cases s
      cases o1
      rfl
    refine wpAny_pure ⟨_, rfl, ?_⟩
    show EP X pins σ Q _ { s1 with heap := sortedHeap (s1.heap.push (seqObj "list" vs.toArray 0)) s1.heap.objs.size vs out.toArray }
    rw [e]
    exact ⟨.ref s1.heap.objs.size, _, J, rfl, k L1 _ p1 hn⟩
end
end K67
end
/-! ## K67Loop -/
section
set_option maxHeartbeats 4000000
/-! K67Loop: loops over data, a dict locked, what is not reached -/
namespace K67
open PySem PySem.Spec PyProof.Rows L2 LamX
/-! ### what is not reached -/
def tDead : TE := fun _ _ _ => False
def sDead : L2.TS := fun _ _ _ => False
theorem pe_dead {X : Cx} {e : Expr} : PE X e tDead := ⟨fun _ _ _ _ _ _ h => h.elim⟩
theorem ps_dead {X : Cx} {st : Stmt} : PS X st sDead := ⟨fun _ _ _ _ _ _ h => h.elim⟩
theorem pss_dead {X : Cx} {b : List Stmt} : PSs X b sDead := ⟨fun _ _ _ _ _ _ h => h.elim⟩
theorem pt_dead {X : Cx} {e : Expr} : PT X e (fun _ _ _ => False) := ⟨fun _ _ _ _ _ _ h => h.elim⟩
section
variable {T : List (Addr × Str)} {K : PySem.W.Frag} {H : Hp} {σ : L2.St} {tl : TE} {ta : TA} {g : TG} {tb : L2.TS} {D : Ends} {α : Type}
/-- over a tuple of data: the turn ends where N is known -/
theorem forT (as : List α) (en : α → NestedKey) (h : ∀ Q' : VK, (∀ v H', Sm T H H' → Tp H' v (.tup (as.map en)) → Q' v H') → tl σ H Q') (Pv : Nat → L2.St → Hp → Prop) (h0 : ∀ H', Sm T H H' → Pv 0 σ H')
    (hs : ∀ (i : Nat) x a σ' H' N, as[i]? = some a → TS H H' → Tp H' x (en a) → Pv i σ' H' → (∀ σ3 H3, TS H' H3 → Pv (i + 1) σ3 H3 → N σ3 H3) → g x σ' H' fun σ2 H2 => tb { D with nx := N, ct := N, bk := D.nx } σ2 H2)
    (hd : ∀ σ' H', TS H H' → Pv as.length σ' H' → D.nx σ' H') : tFor (iTup K tl) g tb D σ H := by
  refine h _ fun v H1 e1 tv => ?_
  obtain ⟨a, xs, rfl, h1, h2⟩ := tv.tup_inv
  have hn : xs.length = as.length := by rw [h2.length, List.length_map]
  refine ⟨a, rfl, ⟨xs, .inl h1⟩, ?_⟩
  refine for_it (walk_tup (K := K) (a := a) (xs := xs)) (fun i σ' H' => TS H1 H' ∧ TS H H' ∧ Pv i σ' H') ⟨TS.refl _, e1.ts, h0 H1 e1⟩ (fun i σ' H' _ p => .inl (p.1 _ _ h1)) (fun i x σ' H2 H2' hi p y => ?_) fun σ' H' p => hd σ' H' p.2.1 (by rw [← hn]; exact p.2.2)
  obtain ⟨rfl, hx⟩ := y
  obtain ⟨d, hd', td⟩ := h2.at_ hx
  rw [List.getElem?_map] at hd'
  obtain ⟨b, hb, rfl⟩ := Option.map_eq_some_iff.mp hd'
  exact hs i x b σ' H2' _ hb p.2.1 (Tp.ts p.1 _ _ td) p.2.2 fun σ3 H3 t3 q => ⟨p.1.trans t3, p.2.1.trans t3, q⟩
/-- over enumerate(a tuple of data): the pair is new -/
theorem forET (as : List NestedKey) (h : ∀ Q' : List V → Hp → Prop, (∀ v H', Sm T H H' → Tp H' v (.tup as) → Q' [v] H') → ta σ H Q') (Pv : Nat → L2.St → Hp → Prop) (h0 : ∀ H', Sm T H H' → Pv 0 σ H')
    (hs : ∀ (i : Nat) p x a σ' H' N, as[i]? = some a → TS H H' → H' p = none → Tp H' x a → Pv i σ' H' → (∀ σ3 H3, TS (upd H' p (.tup [.int (i : Int), x])) H3 → Pv (i + 1) σ3 H3 → N σ3 H3) →
      g (.ref p) σ' (upd H' p (.tup [.int (i : Int), x])) fun σ2 H2 => tb { D with nx := N, ct := N, bk := D.nx } σ2 H2)
    (hd : ∀ σ' H', TS H H' → Pv as.length σ' H' → D.nx σ' H') : tFor (iEnumT K ta) g tb D σ H := by
  refine h _ fun v H1 e1 tv => ?_
  obtain ⟨a, xs, rfl, h1, h2⟩ := tv.tup_inv
  have hn : xs.length = as.length := Tps.length h2
  refine ⟨a, xs, rfl, .inl h1, ?_⟩
  refine for_it (walk_enumT (K := K) (a := a) (xs := xs)) (fun i σ' H' => TS H1 H' ∧ TS H H' ∧ Pv i σ' H') ⟨TS.refl _, e1.ts, h0 H1 e1⟩ (fun i σ' H' _ p => .inl (p.1 _ _ h1)) (fun i x σ' H2 H2' hi p y => ?_) fun σ' H' p => hd σ' H' p.2.1 (by rw [← hn]; exact p.2.2)
  obtain ⟨q, x1, x2, rfl, hp, rfl, z1, z2⟩ := y
  obtain rfl : V.int (i : Int) = x1 := Option.some.inj z1
  obtain ⟨b, hb, td⟩ := h2.at_ z2
  have e3 : TS H2 (upd H2 q (.tup [.int (i : Int), x2])) := (Sm.new (T := T) hp).ts
  exact hs i q x2 b σ' H2 _ hb p.2.1 hp (Tp.ts p.1 _ _ td) p.2.2 fun σ3 H3 t3 z => ⟨(p.1.trans e3).trans t3, (p.2.1.trans e3).trans t3, z⟩
/-- over the list at a, which stays as it is -/
theorem forL {a : Addr} {xs : List V} (IR : Hp → V → α → Prop) (as : List α) (h : ∀ Q' : VK, Q' (.ref a) H → tl σ H Q') (ha : H a = some (.lst xs)) (pr : Paired (IR H) xs as) (Pv : Nat → L2.St → Hp → Prop) (h0 : Pv 0 σ H)
    (hG : ∀ i σ' H', TS H H' → Pv i σ' H' → H' a = some (.lst xs)) (hIR : ∀ H' v b, TS H H' → IR H v b → IR H' v b)
    (hs : ∀ (i : Nat) x b σ' H' N, as[i]? = some b → TS H H' → IR H' x b → Pv i σ' H' → (∀ σ3 H3, TS H' H3 → Pv (i + 1) σ3 H3 → N σ3 H3) → g x σ' H' fun σ2 H2 => tb { D with nx := N, ct := N, bk := D.nx } σ2 H2)
    (hd : ∀ σ' H', TS H H' → Pv as.length σ' H' → D.nx σ' H') : tFor (iList K tl) g tb D σ H := by
  have hn : xs.length = as.length := Paired.length pr
  refine h _ ⟨a, rfl, ⟨xs, .inl (.inl ha)⟩, ?_⟩
  refine for_it (walk_list (K := K) (a := a) (xs := xs)) (fun i σ' H' => TS H H' ∧ Pv i σ' H') ⟨TS.refl _, h0⟩ (fun i σ' H' _ p => .inl (.inl (hG i σ' H' p.1 p.2))) (fun i x σ' H2 H2' hi p y => ?_) fun σ' H' p => hd σ' H' p.1 (by rw [← hn]; exact p.2)
  obtain ⟨rfl, hx⟩ := y
  obtain ⟨b, hb, td⟩ := Paired.at_ pr hx
  exact hs i x b σ' H2' _ hb p.1 (hIR _ _ _ p.1 td) p.2 fun σ3 H3 t3 q => ⟨p.1.trans t3, q⟩
/-- over the items of the dict at d, locked: the pair is new -/
theorem forI {d : Addr} {o : Obj} {kvs : List (Key × V)} (h : ∀ Q' : VK, Q' (.ref d) H → tl σ H Q') (hd0 : H d = some (.frz o (.dK kvs))) (Pv : Nat → L2.St → Hp → Prop) (h0 : Pv 0 σ H) (hG : ∀ i σ' H', TS H H' → Pv i σ' H' → H' d = some (.frz o (.dK kvs)))
    (hs : ∀ (i : Nat) p k v σ' H' N, kvs[i]? = some (k, v) → TS H H' → H' p = none → Pv i σ' H' → (∀ σ3 H3, TS (upd H' p (.tup [kV k, v])) H3 → Pv (i + 1) σ3 H3 → N σ3 H3) →
      g (.ref p) σ' (upd H' p (.tup [kV k, v])) fun σ2 H2 => tb { D with nx := N, ct := N, bk := D.nx } σ2 H2)
    (hd : ∀ σ' H', TS H H' → Pv kvs.length σ' H' → D.nx σ' H') : tFor (iItems tl) g tb D σ H := by
  refine h _ ⟨d, o, kvs, rfl, hd0, ?_⟩
  refine for_it (walk_items (d := d) (o := o) (kvs := kvs)) (fun i σ' H' => TS H H' ∧ Pv i σ' H') ⟨TS.refl _, h0⟩ (fun i σ' H' _ p => hG i σ' H' p.1 p.2) (fun i x σ' H2 H2' hi p y => ?_) fun σ' H' p => hd σ' H' p.1 p.2
  obtain ⟨q, x1, x2, rfl, hp, rfl, z1, z2⟩ := y
  obtain ⟨kv, hkv⟩ : ∃ kv, kvs[i]? = some kv := ⟨_, List.getElem?_eq_getElem hi⟩
  have z1 : kvs[i]?.map (fun kv => kV kv.1) = some x1 := z1
  have z2 : kvs[i]?.map Prod.snd = some x2 := z2
  rw [hkv] at z1 z2
  obtain rfl := Option.some.inj z1
  obtain rfl := Option.some.inj z2
  have e3 : TS H2 (upd H2 q (.tup [kV kv.1, kv.2])) := (Sm.new (T := []) hp).ts
  exact hs i q kv.1 kv.2 σ' H2 _ hkv p.1 hp p.2 fun σ3 H3 t3 z => ⟨(p.1.trans e3).trans t3, z⟩
end
/-! ### a dict locked -/
section
variable {T : List (Addr × Str)} {H H2 : Hp} {d : Addr} {od : Obj} {kvs : List (Key × V)}
theorem lock_ts (h : H d = some (.dK kvs)) : TS H (upd H d (.frz od (.dK kvs))) := TS.mu (by rw [h]; exact mu_dK)
theorem unlock_ts (h : H2 d = some (.frz od (.dK kvs))) : TS H2 (upd H2 d (.dK kvs)) := fun a xs r => by
  have hne : a ≠ d := by
    rintro rfl
    rcases r with r | ⟨o, r⟩ <;> (rw [h] at r; cases r)
  rcases r with r | ⟨o, r⟩
  · exact .inl (by rw [upd_ne hne]; exact r)
  · exact .inr ⟨o, by rw [upd_ne hne]; exact r⟩
theorem mu_frzK : Mu (some (.frz od (.dK kvs))) := ⟨fun _ z => (by cases z), fun c q z => (by unfold CodeO at z; cases z), fun _ z => (by cases z), fun _ _ z => by cases z⟩
theorem lock_sm (h : H d = some (.dK kvs)) (e : Sm T (upd H d (.frz od (.dK kvs))) H2) (h2 : H2 d = some (.frz od (.dK kvs))) : Sm T H (upd H2 d (.dK kvs)) := by
  refine ⟨fun b u q n => ?_, fun t => tabs_upd (by rw [h2]; exact mu_frzK) (e.2 (tabs_upd (by rw [h]; exact mu_dK) t))⟩
  by_cases hb : b = d
  · subst hb
    rw [h] at q
    cases q
    exact upd_same
  · rw [upd_ne hb]
    exact e.1 b u (by rw [upd_ne hb]; exact q) n
/-- a dict comprehension over a locked dict's items: the keys stay, the values tell bs -/
theorem dcI {σ : L2.St} {Q : VK} {tl : TE} {g : TG} {tt : TT} {tk tv : TE} {vs : List Nat} {β : Type} (R : Hp → V → β → Prop) (bs : List (Key × β)) (hd : H d = some (.dK kvs)) (ht : ∀ (Q' : VK) H', H' d = some (.frz od (.dK kvs)) → Q' (.ref d) H' → tl σ H' Q')
    (hk : kvs.map (·.1) = bs.map (·.1)) (nd : (bs.map (·.1)).Nodup) (hz : kvs.length ≤ 100000) (hR : ∀ D H H' v b, XBut D H H' → R H v b → R H' v b)
    (hRu : ∀ H v b, H d = some (.frz od (.dK kvs)) → R H v b → R (upd H d (.dK kvs)) v b)
    (hs : ∀ (i : Nat) p k v b H1, kvs[i]? = some (k, v) → bs[i]? = some (k, b) → TS H H1 → H1 p = some (.tup [kV k, v]) → ∀ (Qy : V → V → Hp → Prop) (Qn : Hp → Prop), (∀ y H2, Sm T H1 H2 → R H2 y b → Qy (kV k) y H2) →
      g (.ref p) (wipe σ vs) H1 fun σ2 H2 => wipe σ2 vs = wipe σ vs ∧ tt σ2 H2 fun b H3 => if b = true then tk σ2 H3 fun y H4 => tv σ2 H4 fun z H5 => Qy y z H5 else Qn H3)
    (hQ : ∀ D H' ys, Sm T H H' → Paired (fun (p : Key × V) (q : Key × β) => p.1 = q.1 ∧ R H' p.2 q.2) ys bs → H' D = some (.dK ys) → H D = none → Q (.ref D) H') :
    tDc (iItems tl) g tt tk tv vs σ (upd H d (.frz od (.dK kvs))) fun v H' => H' d = some (.frz od (.dK kvs)) ∧ Q v (upd H' d (.dK kvs)) := by
  have hl : kvs.length = bs.length := by have := congrArg List.length hk; simpa using this
  refine ht _ _ upd_same ⟨d, od, kvs, rfl, upd_same, fun D hD => ?_⟩
  have hDd : D ≠ d := by rintro rfl; rw [upd_same] at hD; cases hD
  generalize hH0 : upd H d (.frz od (.dK kvs)) = H0 at hD
  have d0 : H0 d = some (.frz od (.dK kvs)) := by rw [← hH0]; exact upd_same
  let In : Nat → Hp → Prop := fun i H1 => i ≤ kvs.length ∧ Sm T H0 H1 ∧ ∃ ys, H1 D = some (.dK ys) ∧ Paired (fun (p : Key × V) (q : Key × β) => p.1 = q.1 ∧ R H1 p.2 q.2) ys (bs.take i)
  refine ⟨fun i m H1 => m = kvs.length - i ∧ In i H1, ⟨_, rfl, Nat.zero_le _, Sm.new hD, [], upd_same, .nil⟩, ?_⟩
  rintro i m H1 ⟨rfl, hi, e, ys, hys, pr⟩
  have hd1 : H1 d = some (.frz od (.dK kvs)) := e.1 d _ d0 (fun _ z => by cases z)
  by_cases hlt : i < kvs.length
  · obtain ⟨kv, hkv⟩ : ∃ kv, kvs[i]? = some kv := ⟨_, List.getElem?_eq_getElem hlt⟩
    obtain ⟨b, hb⟩ : ∃ b, bs[i]? = some b := ⟨_, List.getElem?_eq_getElem (by omega)⟩
    have ekb : kv.1 = b.1 := by
      have z := congrArg (fun l => l[i]?) hk
      simp only [List.getElem?_map, hkv, hb, Option.map_some, Option.some.injEq] at z
      exact z
    refine .inr ⟨⟨hd1, hlt⟩, In (i + 1), fun H' q => ⟨kvs.length - (i + 1), by omega, rfl, q⟩, fun x H' y => ?_⟩
    obtain ⟨p, k, v, hkv', rfl, hp, rfl⟩ := y
    rw [hkv] at hkv'
    obtain rfl := Option.some.inj hkv'
    obtain ⟨b1, b2⟩ := b
    obtain rfl : k = b1 := ekb
    have e3 : Sm T H1 (upd H1 p (.tup [kV k, v])) := Sm.new hp
    have tsH : TS H (upd H1 p (.tup [kV k, v])) := ((hH0 ▸ lock_ts hd : TS H H0).trans e.ts).trans e3.ts
    refine hs i p k v b2 _ hkv hb tsH upd_same _ _ fun y H5 e5 r5 => ?_
    have e15 := e3.trans e5
    have h5 : H5 D = some (.dK ys) := e15.dK hys
    have hly : ys.length = i := by
      rw [Paired.length pr, List.length_take]
      omega
    have hnk : ∀ q ∈ ys, q.1 ≠ k := by
      intro q hq hqk
      obtain ⟨j, hj⟩ := List.mem_iff_getElem?.mp hq
      obtain ⟨c, hc, r, _⟩ := Paired.at_ pr hj
      have hji : j < i := by
        obtain ⟨z, _⟩ := List.getElem?_eq_some_iff.mp hj
        omega
      rw [List.getElem?_take_of_lt hji] at hc
      have n1 : (bs.map (·.1))[j]? = some k := by rw [List.getElem?_map, hc]; exact congrArg some (r.symm.trans hqk)
      have n2 : (bs.map (·.1))[i]? = some k := by rw [List.getElem?_map, hb]; rfl
      have := (List.getElem?_inj (by obtain ⟨z, _⟩ := List.getElem?_eq_some_iff.mp n1; exact z) nd).mp (n1.trans n2.symm)
      omega
    have ep : putK ys k y = ys ++ [(k, y)] := by
      unfold putK
      have : (ys.any fun p => decide (p.1 = k)) = false := by
        rw [List.any_eq_false]
        intro q hq
        simpa using hnk q hq
      simp [this]
    have xb : XBut D H5 (upd H5 D (.dK (putK ys k y))) := XBut.upd (by rw [h5]; exact mu_dK)
    refine ⟨ys, k, rfl, h5, sz_lt' (by omega), hlt, (e.trans e15).mut hD (by rw [h5]; exact mu_dK), _, upd_same, ?_⟩
    rw [List.take_add_one, hb]
    show Paired _ (putK ys k y) (bs.take i ++ [(k, b2)])
    rw [ep] at xb ⊢
    exact Paired.snoc (Paired.mapP pr fun p q r => ⟨r.1, hR _ _ _ _ _ xb (hR _ _ _ _ _ (XBut.of (D := D) e15) r.2)⟩) ⟨rfl, hR _ _ _ _ _ xb r5⟩
  · obtain rfl : i = kvs.length := by omega
    refine .inl ⟨⟨hd1, Nat.le_refl _⟩, hd1, ?_⟩
    have eu : Sm T H (upd H1 d (.dK kvs)) := lock_sm hd (hH0 ▸ e) hd1
    refine hQ D _ ys eu ?_ (by rw [upd_ne hDd]; exact hys) (by rw [← hH0, upd_ne hDd] at hD; exact hD)
    rw [hl, List.take_length] at pr
    exact Paired.mapP pr fun p q r => ⟨r.1, hRu _ _ _ hd1 r.2⟩
end
end K67
end
/-! ## K67Rules -/
section
set_option maxHeartbeats 4000000
/-! K67Rules: the rules as the derivations name them -/
namespace K67
open PySem PySem.Spec PyProof.Rows L2 LamX
section
variable {X : Cx} {K : PySem.W.Frag} {k : Nat} {A : Around}
theorem hu_of (hr : Room k A) : A.units + 1 < cLine := by have := hr.units; omega
theorem hu9 (hr : Room k A) : A.units + 1 + 8 < cLine := by have := hr.units; omega
theorem hu16 (hr : Room k A) : A.units + 16 < cLine := by have := hr.units; omega
theorem pa_starK {e : Expr} {es : List Expr} {te : TE} {t : TA} {p : Pos} (hK : X.K = K) (he : PE X e te) (hr : PA X es t) (hs : starEach (.Starred e p :: es) X.env = (true, eval e X.env) :: starEach es X.env := by rfl) : PA X (.Starred e p :: es) (StX.tStar K te t) := by subst hK; exact StX.pa_star he hr hs
theorem cr_maxDK (hK : X.K = K) (hc : X.calm = true) (hu : X.A.units + 64 < cLine) : CallRK X (.builtin "max") [Str.ofString "default"] (rMaxD K) := by subst hK; exact cr_maxD hc hu
theorem cr_minDK (hK : X.K = K) (hc : X.calm = true) (hu : X.A.units + 64 < cLine) : CallRK X (.builtin "min") [Str.ofString "default"] (rMinD K) := by subst hK; exact cr_minD hc hu
theorem pi_or {tg e : Expr} {w1 w2 : TI} (h1 : PI X tg e w1) (h2 : PI X tg e w2) : PI X tg e (fun σ H R => w1 σ H R ∨ w2 σ H R) := ⟨fun pins s σ H R I h => h.elim (h1.run pins s σ H R I) (h2.run pins s σ H R I)⟩
end
section
variable {X : Cx}
theorem swD_true {kx vx : Expr} {gs : List Comprehension} {scope : Scope} {pos py : Pos} {y : Str} {l : Nat} {env : Env} (hk : env.scope.kind = .function) (hy : env.scope.names.lookup y = some .local) (hl : (py.line == pos.line) = true)
    (ha : (scope.names.any fun (n, k) => n == y && (k == .local || k == .cell)) = false) : swapsWith (.DictComp kx vx gs scope pos) (some (.Name y py)) l env = pure true := by
  have ky : env.kindOf y = some .local := hy
  have hb : env.blockKind = .function := by unfold Env.blockKind; rw [hk]; rfl
  unfold swapsWith
  simp only [hb, ky, ha, Expr.pos, hl]
  rfl
/-- y = {k: v for ..} -/
theorem ps_setDc {i : Nat} {y : Str} {py : Pos} {kx vx tg iter : Expr} {ifs : List Expr} {scope : Scope} {own : List (Str × Nat)} {pos spos : Pos} {wi : TI} {g : TG} {tt : TT} {tk tv : TE} (hc : X.calm = true) (hN : X.N.Nodup) (hy : X.N[i]? = some y) (hyl : X.env.scope.names.lookup y = some .local)
    (hsw : swapsWith (.DictComp kx vx [⟨tg, iter, ifs, 0⟩] scope pos) (some (.Name y py)) spos.line X.env = pure true) (hi : PI X tg iter wi) (ok : BlkOk X.N X.env.scope scope own)
    (hg : ∀ (s : Shared) (H : Hp) (C : Addr) (cl : List (Str × Addr)) (fp : List Addr), PG (X.blk s H scope (compEnvC scope cl C X.env) fp) tg g) (ht : ∀ (s : Shared) (H : Hp) (C : Addr) (cl : List (Str × Addr)) (fp : List Addr), L2.PTs (X.blk s H scope (compEnvC scope cl C X.env) fp) ifs tt)
    (hk : ∀ (s : Shared) (H : Hp) (C : Addr) (cl : List (Str × Addr)) (fp : List Addr), PE (X.blk s H scope (compEnvC scope cl C X.env) fp) kx tk)
    (he : ∀ (s : Shared) (H : Hp) (C : Addr) (cl : List (Str × Addr)) (fp : List Addr), PE (X.blk s H scope (compEnvC scope cl C X.env) fp) vx tv) (hs : ∀ x, foldedSetIterable iter X.env x = pure x := by intro _; rfl) :
    PS X (.Assign [.Name y py] (.DictComp kx vx [⟨tg, iter, ifs, 0⟩] scope pos) spos) (tAsg (tDc wi g tt tk tv (own.map (·.2))) (gName i)) := by
  refine ⟨fun pins s σ H D I h => ?_⟩
  rw [exec_Assign_Name_used _ _ _ _ hsw]
  refine wpAny_bind (wpAny_standAt (wpAny_bind ?_))
  show wpAny _ X.A (do let _ ← comprehension (.DictComp kx vx [⟨tg, iter, ifs, 0⟩] scope pos) scope X.env (firstIterPos [⟨tg, iter, ifs, 0⟩] pos) newDict false (eval iter X.env) (some (assign (.Name y py) X.env))) _ _ s
  have h : tDc wi g tt tk tv (own.map (·.2)) σ H (fun x H1 => gName i x σ H1 D.nx) := h
  refine wpAny_bind (thn (dc_core (Qf := fun _ s' => SP X pins D .next s') hc hN I hi ok hg ht hk he hs h fun L C s' m H' I' q hn f => ?_) fun _ s' hq => wpAny_pure (wpAny_pure hq))
  show wpAny _ _ (assign (.Name y py) X.env (.ref L)) _ _ _
  refine wpAny_assign_Name (store_ok2 (v := V.ref L) I' hN hy (.inl hyl) rfl (fun s2 I2 ⟨a, sb, ha⟩ => ?_) (.inr hyl))
  obtain ⟨f0, f1, f2, f3, f4, f5⟩ := f
  refine ⟨m, hn.sameBut sb ?_, fun h3 sb3 => ⟨_, H', I2.turned (t' := s2.toks) (fun b o hb e => (sb3.2 b hb).trans e) f0 f1 f3 f4 f5, q⟩⟩
  rcases ha with z | z
  · rw [z]; exact f1
  · exact fun e => f4 y a z e.symm
end
section
variable {T : List (Addr × Str)} {K : PySem.W.Frag} {H : Hp} {x : V} {ds es : List NestedKey} {d : NestedKey} {Q : VK}
/-- t[-1] -/
theorem ix_last (h : Tp H x (.tup (ds ++ [d]))) (k : ∀ v, Tp H v d → Q v H) : rIxT K x (.int (-1)) H Q := by
  obtain ⟨a, xs, rfl, hq, ht⟩ := h.sq (K := K)
  have hl := ht.length
  obtain ⟨v, hv, tv⟩ := ht.get (i := ds.length) (d := d) (by simp)
  refine ⟨a, xs, -1, v, rfl, rfl, hq, ?_, k v tv⟩
  rw [List.length_append, List.length_singleton] at hl
  have e : ixN xs.length (-1) = some ds.length := by
    unfold ixN
    rw [hl, if_neg (by decide), if_pos (by omega)]
    congr 1
    omega
  unfold atI
  rw [e]
  exact hv
end
end K67
end
/-! ## K67Q0 -/
section
set_option maxHeartbeats 4000000
/-! K67Q0: in, index over atoms -/
namespace K67
open PySem PySem.Spec PyProof.Rows L2 LamX
section
variable {T : List (Addr × Str)} {K : PySem.W.Frag} {H : Hp} {x y : V} {ds : List NestedKey} {d e : NestedKey} {Q : VK}
theorem flat_at (h : Tp H x d) (ha : atomB d = true) : flatV x = true := by
  cases h with
  | tup _ _ => cases ha
  | _ => rfl
theorem eqV_at (h : Tp H x d) (h' : Tp H y e) (ha : atomB d = true) (hb : atomB e = true) : eqV x y = decide (d = e) := by
  cases h with
  | tup _ _ => cases ha
  | non => cases h' with
    | tup _ _ => cases hb
    | non => rfl
    | int _ => rfl
    | str _ => rfl
  | int i => cases h' with
    | tup _ _ => cases hb
    | non => rfl
    | int j => simp only [eqV, NestedKey.num.injEq]; exact PySem.W.beq_decide _ _
    | str _ => rfl
  | str i => cases h' with
    | tup _ _ => cases hb
    | non => rfl
    | int j => rfl
    | str _ => simp only [eqV, NestedKey.text.injEq]; exact PySem.W.beq_decide _ _
theorem flats_at : ∀ {xs : List V} {ds : List NestedKey}, Tps H xs ds → ds.all atomB = true → xs.all flatV = true
  | _, _, .nil, _ => rfl
  | _, _, .cons h t, ha => by
    rw [List.all_cons, Bool.and_eq_true] at ha
    rw [List.all_cons, flat_at h ha.1, flats_at t ha.2]
    rfl
theorem inV_at (h : Tp H x d) (ha : atomB d = true) : ∀ {xs : List V} {ds : List NestedKey}, Tps H xs ds → ds.all atomB = true → inV x xs = decide (d ∈ ds)
  | _, _, .nil, _ => by simp [inV]
  | _, _, .cons h1 t, hb => by
    rw [List.all_cons, Bool.and_eq_true] at hb
    have ih := inV_at h ha t hb.2
    have e1 := eqV_at h1 h hb.1 ha
    unfold inV at ih ⊢
    rw [List.any_cons, e1, ih, ← Bool.decide_or]
    exact decide_eq_decide.mpr (by rw [List.mem_cons]; exact or_congr eq_comm Iff.rfl)
theorem in_t {neg : Bool} (hx : Tp H x d) (ha : atomB d = true) (hy : Tp H y (.tup ds)) (hb : ds.all atomB = true) (q : Q (.bl (if neg then !decide (d ∈ ds) else decide (d ∈ ds))) H) : rIn K neg x y H Q := by
  obtain ⟨a, xs, rfl, h1, h2⟩ := hy.sq (K := K)
  exact ⟨a, xs, rfl, .inr h1, flat_at hx ha, flats_at h2 hb, by rw [inV_at hx ha h2 hb]; exact q⟩
theorem in_l {neg : Bool} {a : Addr} {xs : List V} (hx : Tp H x d) (ha : atomB d = true) (h1 : H a = some (.lst xs)) (h2 : Tps H xs ds) (hb : ds.all atomB = true) (q : Q (.bl (if neg then !decide (d ∈ ds) else decide (d ∈ ds))) H) : rIn K neg x (.ref a) H Q :=
  ⟨a, xs, rfl, .inl (.inl (.inl h1)), flat_at hx ha, flats_at h2 hb, by rw [inV_at hx ha h2 hb]; exact q⟩
theorem index_l {a : Addr} {xs : List V} (h1 : H a = some (.lst xs)) (h2 : Tps H xs ds) (hb : ds.all atomB = true) (hx : Tp H x d) (ha : atomB d = true) (hm : d ∈ ds) (q : Q (.int ((ds.idxOf d : Nat) : Int)) H) : rIndex K (.ref a) [x] H Q := by
  have hlt := List.idxOf_lt_length_of_mem hm
  have hl := h2.length
  obtain ⟨z, hz, tz⟩ := h2.get (i := ds.idxOf d) (d := ds[ds.idxOf d]) (List.getElem?_eq_getElem hlt)
  have hat : ∀ {e : NestedKey}, e ∈ ds → atomB e = true := fun he => List.all_eq_true.mp hb _ he
  refine ⟨a, xs, x, ds.idxOf d, z, rfl, rfl, .inl (.inl h1), flat_at hx ha, flats_at h2 hb, hz, ?_, fun m z' hm' hz' => ?_, q⟩
  · rw [eqV_at tz hx (hat (List.getElem_mem hlt)) ha]
    exact decide_eq_true (List.getElem_idxOf hlt)
  · obtain ⟨e, he, te⟩ := h2.at_ hz'
    rw [eqV_at te hx (hat (List.mem_of_getElem? he)) ha]
    refine decide_eq_false fun z => ?_
    subst z
    have hml : m < ds.length := by omega
    have := List.not_of_lt_findIdx (p := (· == e)) (xs := ds) (i := m) hm'
    rw [List.getElem?_eq_getElem hml] at he
    simp [Option.some.inj he] at this
end
theorem tup_new {H : Hp} {p : Addr} {xs : List V} {ds : List NestedKey} (hp : H p = none) (h : Tps H xs ds) : Tp (upd H p (.tup xs)) (.ref p) (.tup ds) := .tup (.inl upd_same) (Tps.ts (Sm.new (T := []) hp).ts _ _ h)
theorem ifT {b : Bool} {p q : Prop} (hb : b = true) (h : p) : if b = true then p else q := by rw [if_pos hb]; exact h
theorem ifF {b : Bool} {p q : Prop} (hb : b = false) (h : q) : if b = true then p else q := by rw [if_neg (by rw [hb]; exact Bool.false_ne_true)]; exact h
end K67
end
/-! ## K67DK -/
section
set_option maxHeartbeats 4000000
/-! K67DK: dicts with texts for keys -/
namespace K67
open PySem PySem.Spec PyProof.Rows L2 LamX
abbrev KR {β : Type} (R : Hp → V → β → Prop) (H : Hp) : (Key × V) → (Str × β) → Prop := fun p q => p.1 = Sum.inr q.1 ∧ R H p.2 q.2
def DKR {β : Type} (R : Hp → V → β → Prop) (H : Hp) (d : Addr) (ps : List (Str × β)) : Prop := ∃ kvs, H d = some (.dK kvs) ∧ Paired (KR R H) kvs ps
section
variable {T : List (Addr × Str)} {K : PySem.W.Frag} {β : Type} {R : Hp → V → β → Prop} {H H' : Hp} {d : Addr} {ps : List (Str × β)} {n : Str} {b : β} {Q : VK} {x : V}
theorem kr_val : ∀ {kvs : List (Key × V)} {ps : List (Str × β)}, Paired (KR R H) kvs ps → (ps.map (·.1)).Nodup → (n, b) ∈ ps → ∃ v, valV kvs (Sum.inr n) = some v ∧ R H v b
  | _, _, .nil, _, h => by cases h
  | p :: kvs, q :: ps, .cons r t, nd, h => by
    rw [List.map_cons, List.nodup_cons] at nd
    rcases List.mem_cons.mp h with e | h
    · subst e
      exact ⟨p.2, valV_pos r.1, r.2⟩
    · have hne : p.1 ≠ Sum.inr n := fun e => nd.1 (by
        have : q.1 = n := Sum.inr.inj (r.1.symm.trans e)
        rw [this]
        exact List.mem_map.mpr ⟨(n, b), h, rfl⟩)
      obtain ⟨v, hv, rv⟩ := kr_val t nd.2 h
      exact ⟨v, by rw [valV_neg hne]; exact hv, rv⟩
theorem dk_get (h : DKR R H d ps) (nd : (ps.map (·.1)).Nodup) (hm : (n, b) ∈ ps) (k : ∀ v, R H v b → Q v H) : ∃ x, DGet H d (.str n) (some x) ∧ Q x H := by
  obtain ⟨kvs, h1, h2⟩ := h
  obtain ⟨v, hv, rv⟩ := kr_val h2 nd hm
  exact ⟨v, by rw [← hv]; exact DGet.k (k := Sum.inr n) h1, k v rv⟩
theorem dk_got (h : DKR R H d ps) (nd : (ps.map (·.1)).Nodup) (hm : (n, b) ∈ ps) : ∃ v, DGet H d (.str n) (some v) ∧ R H v b := dk_get (Q := fun v H => R H v b) h nd hm fun _ r => r
theorem DKR.sm (hR : ∀ v b, R H v b → R H' v b) (e : Sm T H H') (h : DKR R H d ps) : DKR R H' d ps := let ⟨kvs, h1, h2⟩ := h; ⟨kvs, e.dK h1, Paired.mapP h2 fun _ _ r => ⟨r.1, hR _ _ r.2⟩⟩
theorem DKR.xb {D : Addr} (hR : ∀ v b, R H v b → R H' v b) (e : XBut D H H') (hn : d ≠ D) (h : DKR R H d ps) : DKR R H' d ps := let ⟨kvs, h1, h2⟩ := h; ⟨kvs, e.2 d _ hn h1 (fun _ z => by cases z), Paired.mapP h2 fun _ _ r => ⟨r.1, hR _ _ r.2⟩⟩
theorem kr_put {v : V} : ∀ {kvs : List (Key × V)} {ps : List (Str × β)}, Paired (KR R H) kvs ps → n ∉ ps.map (·.1) → putK kvs (Sum.inr n) v = kvs ++ [(Sum.inr n, v)] := by
  intro kvs ps h hn
  unfold putK
  have : (kvs.any fun p => decide (p.1 = Sum.inr n)) = false := by
    rw [List.any_eq_false]
    intro q hq hz
    obtain ⟨j, hj⟩ := List.mem_iff_getElem?.mp hq
    obtain ⟨c, hc, r, _⟩ := Paired.at_ h hj
    have e : c.1 = n := Sum.inr.inj (r.symm.trans (of_decide_eq_true hz))
    exact hn (e ▸ List.mem_map.mpr ⟨c, List.mem_of_getElem? hc, rfl⟩)
  simp [this]
/-- d[n] = v, n new -/
theorem dk_put {v : V} (h : DKR R H d ps) (hn : n ∉ ps.map (·.1)) (hl : ps.length ≤ 100000) (hR : ∀ H H' v b, XBut d H H' → R H v b → R H' v b) (hv : R H v b) :
    ∃ o, DPut H d (.str n) v (upd H d o) ∧ DKR R (upd H d o) d (ps ++ [(n, b)]) ∧ Mu (H d) := by
  obtain ⟨kvs, h1, h2⟩ := h
  have hlen := Paired.length h2
  have hm : Mu (H d) := by rw [h1]; exact mu_dK
  have xb : XBut d H (upd H d (.dK (putK kvs (Sum.inr n) v))) := XBut.upd hm
  refine ⟨_, DPut.k (k := Sum.inr n) h1 (sz_lt' (by omega)), ⟨_, upd_same, ?_⟩, hm⟩
  rw [kr_put h2 hn] at xb ⊢
  exact Paired.snoc (Paired.mapP h2 fun _ _ r => ⟨r.1, hR _ _ _ _ xb r.2⟩) ⟨rfl, hR _ _ _ _ xb hv⟩
/-- {} -/
theorem dk_new (k : ∀ p H', Sm T H H' → H p = none → DKR R H' p [] → Q (.ref p) H') : ∀ p, H p = none → Q (.ref p) (upd H p (.dK [])) := fun p hp => k p _ (Sm.new hp) hp ⟨[], upd_same, .nil⟩
def stepK (p : Str × NestedKey) : NestedKey := .tup [.text p.1, p.2]
/-- dict(pairs) of data -/
theorem dictT_d {ds : List (Str × NestedKey)} (h : PTs H x (ds.map stepK)) (nd : (ds.map (·.1)).Nodup) (hl : ds.length ≤ 100000) (k : ∀ p H', Sm T H H' → H p = none → DKR Tp H' p ds → Q (.ref p) H') : rDictT [x] H Q := by
  obtain ⟨a, o, vs, rfl, h1, h2, h3⟩ := h
  have key : ∀ {vs : List V} {ds : List (Str × NestedKey)}, Tps H vs (ds.map stepK) → ∃ kvs, PairsT H vs kvs ∧ Paired (KR Tp H) kvs ds := by
    intro vs ds
    induction ds generalizing vs with
    | nil => intro h; obtain rfl := h.nil_inv; exact ⟨[], .nil, .nil⟩
    | cons q ds ih =>
      intro h
      obtain ⟨v, ws, rfl, tv, tw⟩ := h.cons_inv
      obtain ⟨kvs, p1, p2⟩ := ih tw
      obtain ⟨t, xs, rfl, hr, ht⟩ := tv.tup_inv
      obtain ⟨x1, r, rfl, t1, ht⟩ := ht.cons_inv
      obtain ⟨x2, r, rfl, t2, ht⟩ := ht.cons_inv
      obtain rfl := ht.nil_inv
      obtain rfl := t1.text_inv
      exact ⟨(Sum.inr q.1, x2) :: kvs, .cons ⟨t, rfl, hr⟩ p1, .cons ⟨rfl, t2⟩ p2⟩
  obtain ⟨kvs, p1, p2⟩ := key h3
  have em : mergeK [] kvs = kvs := by
    have go : ∀ (more acc : List (Key × V)), ((acc ++ more).map (·.1)).Nodup → mergeK acc more = acc ++ more := by
      intro more
      induction more with
      | nil => intro acc _; rw [List.append_nil]; rfl
      | cons p more ih =>
        intro acc hn
        have hp : putK acc p.1 p.2 = acc ++ [p] := by
          unfold putK
          have : (acc.any fun q => decide (q.1 = p.1)) = false := by
            rw [List.any_eq_false]
            intro q hq hz
            rw [List.map_append, List.nodup_append] at hn
            exact hn.2.2 q.1 (List.mem_map.mpr ⟨q, hq, rfl⟩) p.1 (by simp) (of_decide_eq_true hz)
          simp [this]
        show mergeK (putK acc p.1 p.2) more = _
        rw [hp, ih _ (by simpa using hn)]
        simp
    refine (go kvs [] ?_).trans (List.nil_append _)
    have e : kvs.map (·.1) = (ds.map (·.1)).map Sum.inr := by
      clear nd hl h3 p1 k
      induction p2 with
      | nil => rfl
      | cons r _ ih => rw [List.map_cons, List.map_cons, List.map_cons, ih, r.1]
    rw [List.nil_append, e]
    exact List.pairwise_map.mpr (nd.imp fun hne e => hne (Sum.inr.inj e))
  have hlen := Paired.length p2
  refine ⟨a, o, vs, kvs, rfl, h1, h2, p1, by omega, fun p hp => ?_⟩
  rw [em]
  exact k p _ (Sm.new hp) hp ⟨kvs, upd_same, Paired.mapP p2 fun _ _ r => ⟨r.1, Tp.ts (Sm.new (T := []) hp).ts _ _ r.2⟩⟩
/-- t[lo:hi] made anew, known to the object -/
theorem slF_d {ds es : List NestedKey} {lo hi : Option Int} (h : Tp H x (.tup ds)) (he : (ds.drop (HT.sIx ds.length 0 lo)).take (HT.sIx ds.length ds.length hi - HT.sIx ds.length 0 lo) = es) (hw : ¬ (HT.sIx ds.length 0 lo = 0 ∧ HT.sIx ds.length ds.length hi = ds.length))
    (k : ∀ v H', Sm T H H' → PTs H' v es → Q v H') : rSlF K x lo hi H Q := by
  obtain ⟨a, xs, rfl, h1, h2⟩ := h.sq (K := K)
  have hl := h2.length
  refine ⟨a, xs, rfl, h1, by rw [hl]; exact hw, tupF_d (T := T) ?_ k⟩
  rw [← he]
  unfold cutV
  rw [hl]
  exact (h2.drop _).take _
end
end K67
end
/-! ## K67Q -/
section
set_option maxHeartbeats 4000000
/-! K67Q: what is asked of the query -/
namespace K67
open PySem PySem.Spec PyProof.Rows L2 LamX
local macro_rules | `(tactic| walk_at "sm") => `(tactic| first | assumption | exact Sm.refl _ _ | (refine Sm.trans ?_ (by assumption); walk_at "sm"))
local macro_rules | `(tactic| walk_at "ts") => `(tactic| first | assumption | exact TS.refl _ | (refine TS.trans ?_ (by assumption); walk_at "ts") | (refine TS.trans ?_ (Sm.ts (by assumption)); walk_at "ts"))
local macro_rules | `(tactic| walk_at "tp") => `(tactic| first | assumption | exact Tp.int _ | exact Tp.str _ | exact Tp.non | (refine Tp.ts (H := ?_) ?_ _ _ (by assumption); walk_at "ts"))
local macro_rules | `(tactic| walk_at "tps") => `(tactic| first | assumption | exact Tps.nil | (refine Tps.cons ?_ ?_; · walk_at "tp"; · walk_at "tps") | (refine Tps.ts (H := ?_) ?_ _ _ (by assumption); walk_at "ts"))
local macro_rules | `(tactic| walk_at "rd") => `(tactic| try simp only [rMax2, and_assoc, tYes, tSeq, tIfS, tRet, tNext, tTest, tB, tOp, tUn, tVar, tC, tTup, tLst, tCons, tNil, tIf, tCB, tCall, tBM, tBM0, tAsg, gName, gCons, gNil, gSub, tDrop, tPar, tPar3, tAug, tAnd, tOr, tNot, tAndV, tOrV, tNotV, tChain, tSl, tPart, tNoPart, rI0, rI, rU, rEq, rNe, L2.start, wipe, sz0, sz1, sz2, sz3, sz4, sz5, sz6, List.map_cons, List.map_nil, List.length_cons, List.length_nil, List.cons_append, List.nil_append, List.append_nil, List.getElem?_cons_zero, List.getElem?_cons_succ, List.set_cons_zero, List.set_cons_succ, List.replicate_zero, List.replicate_succ, Option.some.injEq, V.bl.injEq, V.int.injEq, V.str.injEq, List.cons.injEq, and_true, true_and, exists_eq_left', exists_eq_left, exists_eq', exists_eq, exists_and_left, Nat.reduceSub, Nat.reduceAdd, Nat.reduceLeDiff, decide_true, decide_false, if_true, if_false, Bool.false_eq_true, reduceIte])
local macro_rules | `(tactic| walk_at "rd2") => `(tactic| try simp only [tDGet, sDPut, tDNewK, tNNew, tNGet2, tNSetd, tNGet, sNPut, tTupF, tCKw, tDead, sDead, tDispN, tPairs, StX.tStar, rNeDN, rNeDN2, rMax2, and_assoc, tYes, tSeq, tIfS, tRet, tNext, tTest, tB, tOp, tUn, tVar, tC, tTup, tLst, tCons, tNil, tIf, tCB, tCall, tBM, tBM0, tAsg, gName, gCons, gNil, gSub, tDrop, tPar, tPar3, tAug, tAnd, tOr, tNot, tAndV, tOrV, tNotV, tChain, tSl, tPart, tNoPart, rI0, rI, rU, rEq, rNe, L2.start, wipe, sz0, sz1, sz2, sz3, sz4, sz5, sz6, List.map_cons, List.map_nil, List.length_cons, List.length_nil, List.cons_append, List.nil_append, List.append_nil, List.getElem?_cons_zero, List.getElem?_cons_succ, List.set_cons_zero, List.set_cons_succ, List.replicate_zero, List.replicate_succ, Option.some.injEq, V.bl.injEq, V.int.injEq, V.str.injEq, List.cons.injEq, and_true, true_and, exists_eq_left', exists_eq_left, exists_eq', exists_eq, exists_and_left, Nat.reduceSub, Nat.reduceAdd, Nat.reduceLeDiff, decide_true, decide_false, if_true, if_false, Bool.false_eq_true, reduceIte])

abbrev Col := Str × Str
def colK (c : Col) : NestedKey := .tup [.text c.1, .text c.2]
def colsK (cs : List Col) : NestedKey := .tup (cs.map colK)
structure Qry where
  L : List Col
  R : List Col
  keys : List Str
  back : Int
  ahead : Int
def srcStep (cs : List Col) : NestedKey := .tup [.text "source", colsK cs]
def joinStep (q : Qry) : NestedKey := .tup [.text "join", .text "x", .text "y", .tup (q.keys.map .text), .num q.back, .num q.ahead]
def Qry.steps (q : Qry) : List (Str × NestedKey) := [("x", srcStep q.L), ("y", srcStep q.R), ("j", joinStep q)]
theorem Qry.nd (q : Qry) : (q.steps.map (·.1)).Nodup := by
  show (["x", "y", "j"] : List Str).Nodup
  decide +kernel
def Qry.k (q : Qry) : NestedKey := .tup (q.steps.map stepK ++ [.tup [.text "out", .text "j"]])
section
variable (T : List (Addr × Str))
def sp_made : Sp := fun vs H Q _ => ∃ v, vs = [v] ∧ ((∃ cs : List Col, Tp H v (srcStep cs) ∧ ∀ v' H', Sm T H H' → Tp H' v' (.tup []) → Q v' H') ∨ ∃ q : Qry, Tp H v (joinStep q) ∧ ∀ v' H', Sm T H H' → Tp H' v' (.tup [.text "x", .text "y"]) → Q v' H')
def sp_step : Sp := fun vs H Q _ => ∃ (v : V) (q : Qry) (n : Str) (st : NestedKey), vs = [v, .str n] ∧ Tp H v q.k ∧ (n, st) ∈ q.steps ∧ ∀ v' H', Sm T H H' → Tp H' v' st → Q v' H'
def Qry.aheads (q : Qry) : List (Str × List Str) := [("x", []), ("y", []), ("j", ["x", "y"])]
def sp_steps_ahead : Sp := fun vs H Q _ => ∃ (v : V) (q : Qry) (n : Str) (ns : List Str), vs = [v, .str n] ∧ Tp H v q.k ∧ (n, ns) ∈ q.aheads ∧ ∀ v' H', Sm T H H' → Tp H' v' (.tup (ns.map .text)) → Q v' H'
def sp_out : Sp := fun vs H Q _ => ∃ (v : V) (q : Qry), vs = [v] ∧ Tp H v q.k ∧ Q (.str "j") H
def joinCols (q : Qry) : List Col := q.L ++ q.R.filter fun c => decide (c.1 ∉ q.keys)
def srcCols (q : Qry) : List (Str × NestedKey) := [("x", colsK q.L), ("y", colsK q.R)]
structure Qry.ok (q : Qry) : Prop where
  l : q.L.length ≤ 10
  r : q.R.length ≤ 10
  k : q.keys.length ≤ 10
def Qry.cols (q : Qry) : List (Str × List Col) := [("x", q.L), ("y", q.R), ("j", joinCols q)]
def sp_cmade : Sp := fun vs H Q _ => ∃ (v : V) (d : Addr), vs = [v, .ref d] ∧ ((∃ cs : List Col, Tp H v (srcStep cs) ∧ ∀ v', Tp H v' (colsK cs) → Q v' H) ∨
  ∃ q : Qry, Tp H v (joinStep q) ∧ DKR Tp H d (srcCols q) ∧ q.ok ∧ ∀ v' H', Sm T H H' → Tp H' v' (colsK (joinCols q)) → Q v' H')
def sp_columns_of : Sp := fun vs H Q _ => ∃ (v : V) (q : Qry) (n : Str) (cs : List Col), vs = [v, .str n] ∧ Tp H v q.k ∧ q.ok ∧ (n, cs) ∈ q.cols ∧ ∀ v' H', Sm T H H' → Tp H' v' (colsK cs) → Q v' H'
end
variable {P : Program} {w : World} {K : PySem.W.Frag} {mg : Str → Option Value} {base : Heap} {T : List (Addr × Str)} {f : Addr} {fd : FuncData}
abbrev N_made_of : List Str := ["step"]
theorem sc_made_of : FnScope N_made_of ["step"] (defScope s_made_of) := ⟨rfl, rfl, rfl, by decide +kernel, rfl, by decide +kernel, by decide +kernel⟩
theorem ok_made_of (B : Bs mg) (hg : mg "made_of" = some (.ref f)) (F : FnP K "made_of" s_made_of f fd) : Df P w K mg base "made_of" 1 ["step"] (sp_made T) := by
  refine df_mk hg F sc_made_of (fun vs H Q E h => ?_) (
    fun _ _ _ _ _ _ us hl => match us, hl with | [_], _ => rfl
    ) (fun cdv A outer s H vs Q E hr h => ?_)
  · obtain ⟨_, rfl, _⟩ := h
    rfl
  · obtain ⟨v, rfl, h⟩ := h
    refine ⟨_,
      (pss_cons (ps_if (pt_cmpR op_eq (pe_ix (ix_tupK (K := K) rfl) (pv 0) pe_int (fun _ _ => rfl)) pe_str (nomark _)) (pss_one (ps_ret (pe_tup pa_nil)))
    pss_nil)
    (pss_one (ps_ret (pe_ifExp (pt_cmpR (op_inK (K := K) rfl) (pe_ix (ix_tupK (K := K) rfl) (pv 0) pe_int (fun _ _ => rfl)) (pe_tup (pa_cons pe_str (pa_cons pe_str pa_nil))) (by with_unfolding_all rfl)) (pe_slice (sl_tupK (K := K) rfl) (pv 0) (po_some pe_int) (po_some pe_int)) (pe_slice (sl_tupK (K := K) rfl) (pv 0) (po_some pe_int) (po_some pe_int))))))
      , ?_⟩
    walk_at "rd2"
    rcases h with ⟨cs, hv, k⟩ | ⟨q, hv, k⟩
    · refine ix_d (i := 0) hv rfl fun x t => ?_
      obtain rfl := t.text_inv
      walk_at "rd2"
      exact ⟨rfl, tup_d (T := T) .nil fun v' H' e t => k v' H' e t⟩
    · refine ix_d (i := 0) hv rfl fun x t => ?_
      obtain rfl := t.text_inv
      walk_at "rd2"
      refine ⟨rfl, ifF (by decide +kernel) ?_⟩
      refine ix_d (i := 0) hv rfl fun x t => ?_
      obtain rfl := t.text_inv
      intro p hp
      have e1 : Sm T H _ := Sm.new (o := .tup [V.str "both", V.str "join"]) hp
      refine in_t (.str _) rfl (tup_new hp (.cons (.str _) (.cons (.str _) .nil))) rfl ⟨true, by decide +kernel, ifT rfl ?_⟩
      exact sl_d (Tp.ts e1.ts _ _ hv) (by rfl) fun v' H' e t => k v' H' (e1.trans e) t
abbrev N_step_of : List Str := ["query", "name"]
theorem sc_step_of : FnScope N_step_of ["query", "name"] (defScope s_step_of) := ⟨rfl, rfl, rfl, by decide +kernel, rfl, by decide +kernel, by decide +kernel⟩
theorem ok_step_of (B : Bs mg) (hg : mg "step_of" = some (.ref f)) (F : FnP K "step_of" s_step_of f fd) : Df P w K mg base "step_of" 1 ["query", "name"] (sp_step T) := by
  refine df_mk hg F sc_step_of (fun vs H Q E h => ?_) (
    fun _ _ _ _ _ _ us hl => match us, hl with | [_, _], _ => rfl
    ) (fun cdv A outer s H vs Q E hr h => ?_)
  · obtain ⟨_, _, _, _, rfl, _⟩ := h
    rfl
  · obtain ⟨v, q, n, st, rfl, hv, hn, k⟩ := h
    refine ⟨_,
      (pss_one (ps_ret (pe_dget (hu_of hr) (pe_callTy (call_dictT rfl) (by rfl) B.dict_ (by decide +kernel) (pa_cons (pe_slice (sl_tupF (K := K) rfl) (pv 0) po_none (po_some (pe_un un_neg pe_int))) pa_nil)) (pv 1) (fun _ _ => rfl))))
      , ?_⟩
    walk_at "rd2"
    refine slF_d (T := T) (es := q.steps.map stepK) hv (by rfl) (fun z => absurd z.2 (by show ¬ (3 = 4); decide)) fun v1 H1 e1 t1 => ?_
    refine dictT_d (T := T) t1 q.nd (by show 3 ≤ _; decide) fun p H2 e2 hp h2 => ?_
    refine ⟨p, rfl, dk_get h2 q.nd hn fun v tv => k v H2 (e1.trans e2) tv⟩
abbrev N_steps_ahead : List Str := ["query", "name"]
theorem sc_steps_ahead : FnScope N_steps_ahead ["query", "name"] (defScope s_steps_ahead) := ⟨rfl, rfl, rfl, by decide +kernel, rfl, by decide +kernel, by decide +kernel⟩
theorem ok_steps_ahead (B : Bs mg) (D_made_of : Df P w K mg base "made_of" 1 ["step"] (sp_made T)) (D_step_of : Df P w K mg base "step_of" 1 ["query", "name"] (sp_step T)) (hg : mg "steps_ahead" = some (.ref f)) (F : FnP K "steps_ahead" s_steps_ahead f fd) :
    Df P w K mg base "steps_ahead" 2 ["query", "name"] (sp_steps_ahead T) := by
  refine df_mk hg F sc_steps_ahead (fun vs H Q E h => ?_) (
    fun _ _ _ _ _ _ us hl => match us, hl with | [_, _], _ => rfl
    ) (fun cdv A outer s H vs Q E hr h => ?_)
  · obtain ⟨_, _, _, _, rfl, _⟩ := h
    rfl
  · obtain ⟨v, q, n, ns, rfl, hv, hn, k⟩ := h
    refine ⟨_,
      (pss_one (ps_ret (pe_df D_made_of hr (pa_cons (pe_df D_step_of hr (pa_cons (pv 0) (pa_cons (pv 1) pa_nil))) pa_nil))))
      , ?_⟩
    walk_at "rd2"
    have hst : ∃ st, (n, st) ∈ q.steps ∧ ((∃ cs, st = srcStep cs ∧ ns = []) ∨ (st = joinStep q ∧ ns = (["x", "y"] : List Str))) := by
      simp only [Qry.aheads, List.mem_cons, List.mem_singleton, Prod.mk.injEq, List.not_mem_nil, or_false] at hn
      rcases hn with ⟨rfl, rfl⟩ | ⟨rfl, rfl⟩ | ⟨rfl, rfl⟩
      · exact ⟨srcStep q.L, by simp [Qry.steps], .inl ⟨_, rfl, rfl⟩⟩
      · exact ⟨srcStep q.R, by simp [Qry.steps], .inl ⟨_, rfl, rfl⟩⟩
      · exact ⟨joinStep q, by simp [Qry.steps], .inr ⟨rfl, rfl⟩⟩
    obtain ⟨st, hm, hst⟩ := hst
    refine ⟨v, q, n, st, rfl, hv, hm, fun v1 H1 e1 t1 => ?_⟩
    rcases hst with ⟨cs, rfl, rfl⟩ | ⟨rfl, rfl⟩
    · exact ⟨v1, rfl, .inl ⟨cs, t1, fun v2 H2 e2 t2 => k v2 H2 (e1.trans e2) t2⟩⟩
    · exact ⟨v1, rfl, .inr ⟨q, t1, fun v2 H2 e2 t2 => k v2 H2 (e1.trans e2) t2⟩⟩
abbrev N_out_of : List Str := ["query"]
theorem sc_out_of : FnScope N_out_of ["query"] (defScope s_out_of) := ⟨rfl, rfl, rfl, by decide +kernel, rfl, by decide +kernel, by decide +kernel⟩
theorem ok_out_of (B : Bs mg) (hg : mg "out_of" = some (.ref f)) (F : FnP K "out_of" s_out_of f fd) : Df P w K mg base "out_of" 1 ["query"] sp_out := by
  refine df_mk hg F sc_out_of (fun vs H Q E h => ?_) (
    fun _ _ _ _ _ _ us hl => match us, hl with | [_], _ => rfl
    ) (fun cdv A outer s H vs Q E hr h => ?_)
  · obtain ⟨_, _, rfl, _⟩ := h
    rfl
  · obtain ⟨v, q, rfl, hv, k⟩ := h
    refine ⟨_,
      (pss_one (ps_ret (pe_ix (ix_tupK (K := K) rfl) (pe_ix (ix_tupK (K := K) rfl) (pv 0) (pe_un un_neg pe_int) (fun _ _ => rfl)) pe_int (fun _ _ => rfl))))
      , ?_⟩
    walk_at "rd2"
    refine ix_last (ds := q.steps.map stepK) hv fun x t => ?_
    refine ix_d (i := 1) t rfl fun y u => ?_
    obtain rfl := u.text_inv
    exact k
abbrev N_columns_made : List Str := ["step", "ahead", "first", "found", "name", "how", "e", "key", "pair"]
theorem sc_columns_made : FnScope N_columns_made ["step", "ahead"] (defScope s_columns_made) := ⟨rfl, rfl, rfl, by decide +kernel, rfl, by decide +kernel, by decide +kernel⟩
theorem ok_columns_made (B : Bs mg) (hg : mg "columns_made" = some (.ref f)) (F : FnP K "columns_made" s_columns_made f fd) : Df P w K mg base "columns_made" 1 ["step", "ahead"] (sp_cmade T) := by
  refine df_mk hg F sc_columns_made (fun vs H Q E h => ?_) (
    fun _ _ _ _ _ _ us hl => match us, hl with | [_, _], _ => rfl
    ) (fun cdv A outer s H vs Q E hr h => ?_)
  · obtain ⟨_, _, rfl, _⟩ := h
    rfl
  · obtain ⟨v, d, rfl, h⟩ := h
    refine ⟨_,
      (pss_cons (ps_if (pt_cmpR op_eq (pe_ix (ix_tupK (K := K) rfl) (pv 0) pe_int (fun _ _ => rfl)) pe_str (nomark _)) (pss_one (ps_ret (pe_ix (ix_tupK (K := K) rfl) (pv 0) pe_int (fun _ _ => rfl))))
    pss_nil)
    (pss_cons (ps_set (i := 2) sc_columns_made.nd rfl (by first | exact Or.inl rfl | exact Or.inr rfl) (pe_dget (hu_of hr) (pv 1) (pe_ix (ix_tupK (K := K) rfl) (pv 0) pe_int (fun _ _ => rfl)) (fun _ _ => rfl)))
    (pss_cons (ps_if (pt_cmpR (op_inK (K := K) rfl) (pe_ix (ix_tupK (K := K) rfl) (pv 0) pe_int (fun _ _ => rfl)) (pe_tup (pa_cons pe_str (pa_cons pe_str pa_nil))) (by with_unfolding_all rfl)) (pss_one (ps_ret (pv 2)))
    pss_nil)
    (pss_cons (ps_if (pt_cmpR op_eq (pe_ix (ix_tupK (K := K) rfl) (pv 0) pe_int (fun _ _ => rfl)) pe_str (nomark _)) (pss_one (ps_ret (pe_dead)))
    pss_nil)
    (pss_cons (ps_if (pt_cmpR op_eq (pe_ix (ix_tupK (K := K) rfl) (pv 0) pe_int (fun _ _ => rfl)) pe_str (nomark _)) (pss_one (ps_ret (pe_op (op_catK (K := K) rfl) (pv 2) (pe_callTy (tupOfK (K := K) rfl) (by rfl) B.tuple_ (by decide +kernel) (pa_cons (pe_lc (own := [("pair", 8)]) (by rfl) sc_columns_made.nd (pi_tupK (K := K) rfl (pe_dget (hu_of hr) (pv 1) (pe_ix (ix_tupK (K := K) rfl) (pv 0) pe_int (fun _ _ => rfl)) (fun _ _ => rfl))) (blkOk_by (N := N_columns_made) (sc := defScope s_columns_made) (by decide +kernel)) (fun _ _ _ _ _ => (pg_name (i := 8) sc_columns_made.nd rfl (by first | exact Or.inl rfl | exact Or.inr rfl))) (fun _ _ _ _ _ => (pts_one (pt_cmpR (op_notInK (K := K) rfl) (pe_ix (ix_tupK (K := K) rfl) (pv 8) pe_int (fun _ _ => rfl)) (pe_ix (ix_tupK (K := K) rfl) (pv 0) pe_int (fun _ _ => rfl)) (by with_unfolding_all rfl)))) (fun _ _ _ _ _ => (pv 8))) pa_nil)))))
    pss_nil)
    (pss_cons (ps_dead)
    (pss_cons (ps_dead)
    (pss_one (ps_ret (pe_dead))))))))))
      , ?_⟩
    walk_at "rd2"
    rcases h with ⟨cs, hv, k⟩ | ⟨q, hv, hd, hok, k⟩
    · refine ix_d (i := 0) hv rfl fun x t => ?_
      obtain rfl := t.text_inv
      walk_at "rd2"
      refine ⟨rfl, ?_⟩
      exact ix_d (i := 1) hv rfl fun x t => k x t
    · refine ix_d (i := 0) hv rfl fun x t => ?_
      obtain rfl := t.text_inv
      walk_at "rd2"
      refine ⟨rfl, ifF (by decide +kernel) ?_⟩
      have nd2 : ((srcCols q).map (·.1)).Nodup := by
        show (["x", "y"] : List Str).Nodup
        decide +kernel
      refine ix_d (i := 1) hv rfl fun x t => ?_
      obtain rfl := t.text_inv
      obtain ⟨v1, g1, t1⟩ := dk_got (n := "x") (b := colsK q.L) hd nd2 (by simp [srcCols])
      refine ⟨d, rfl, v1, g1, ?_⟩
      refine ix_d (i := 0) hv rfl fun x t => ?_
      obtain rfl := t.text_inv
      intro p hp
      have e1 : Sm T H _ := Sm.new (o := .tup [V.str "keep", V.str "both"]) hp
      refine in_t (.str _) rfl (tup_new hp (.cons (.str _) (.cons (.str _) .nil))) rfl ⟨false, by decide +kernel, ifF rfl ?_⟩
      generalize upd H p (.tup [V.str "keep", V.str "both"]) = H1 at e1
      have hv1 := Tp.ts e1.ts _ _ hv
      refine ix_d (i := 0) hv1 rfl fun x t => ?_
      obtain rfl := t.text_inv
      walk_at "rd2"
      refine ⟨rfl, ifF (by decide +kernel) ?_⟩
      refine ix_d (i := 0) hv1 rfl fun x t => ?_
      obtain rfl := t.text_inv
      walk_at "rd2"
      refine ⟨rfl, ?_⟩
      refine lcT (T := T) q.R colK (fun _ => Tp) (fun c => if c.1 ∈ q.keys then none else some (colK c)) (fun Q' k' => ?_) (by have := hok.r; omega) r_tp (fun D i x c H2 ha1 e tx hD Qy Qn hy hn => ?_) (fun D H2 ys e hD pr => ?_)
      · walk_at "rd2"
        refine ix_d (i := 2) hv1 rfl fun x t => ?_
        obtain rfl := t.text_inv
        obtain ⟨v2, g2, t2⟩ := dk_got (n := "y") (b := colsK q.R) (DKR.sm (fun _ _ r => Tp.ts e1.ts _ _ r) e1 hd) nd2 (by simp [srcCols])
        exact ⟨d, rfl, v2, g2, k' v2 _ (Sm.refl _ _) t2⟩
      · walk_at "rd2"
        refine ix_d (i := 0) tx rfl fun y ty => ?_
        refine ix_d (i := 3) (Tp.ts e.ts _ _ hv1) rfl fun z tz => ?_
        refine in_t ty rfl tz (by rw [List.all_map]; exact List.all_eq_true.mpr fun _ _ => rfl) ⟨!decide (c.1 ∈ q.keys), by simp, ?_⟩
        by_cases hc : c.1 ∈ q.keys
        · rw [decide_eq_true hc]
          exact ifF rfl (hn H2 (if_pos hc) (Sm.refl _ _))
        · rw [decide_eq_false hc]
          exact ifT rfl (hy x _ H2 (if_neg hc) (Sm.refl _ _) tx)
      · walk_at "rd2"
        refine tuple_d (T := T) hD (Tps.of pr) fun v3 H3 e3 t3 => ?_
        have e13 := (e1.trans e).trans e3
        refine cat_d (T := T) (Tp.ts e13.ts _ _ t1) t3 ?_ fun v4 H4 e4 t4 => k v4 H4 (e13.trans e4) ?_
        · have h1 := hok.l
          have h2 := List.length_filterMap_le (fun c : Col => if c.1 ∈ q.keys then none else some (colK c)) q.R
          have h3 := hok.r
          rw [List.length_map]
          omega
        · have e5 : q.L.map colK ++ q.R.filterMap (fun c => if c.1 ∈ q.keys then none else some (colK c)) = (joinCols q).map colK := by
            unfold joinCols
            rw [List.map_append]
            congr 1
            generalize q.R = l
            induction l with
            | nil => rfl
            | cons c l ih =>
              by_cases hc : c.1 ∈ q.keys
              · rw [List.filterMap_cons, if_pos hc, ih, List.filter_cons]; simp [hc]
              · rw [List.filterMap_cons, if_neg hc, ih, List.filter_cons]; simp [hc]
          rw [e5] at t4
          exact t4
abbrev N_columns_of : List Str := ["query", "name", "ahead", "other", "step"]
theorem sc_columns_of : FnScope N_columns_of ["query", "name"] (defScope s_columns_of) := ⟨rfl, rfl, rfl, by decide +kernel, rfl, by decide +kernel, by decide +kernel⟩
theorem ok_columns_of (B : Bs mg) (D_columns_made : Df P w K mg base "columns_made" 1 ["step", "ahead"] (sp_cmade T)) (hg : mg "columns_of" = some (.ref f)) (F : FnP K "columns_of" s_columns_of f fd) : Df P w K mg base "columns_of" 2 ["query", "name"] (sp_columns_of T) := by
  refine df_mk hg F sc_columns_of (fun vs H Q E h => ?_) (
    fun _ _ _ _ _ _ us hl => match us, hl with | [_, _], _ => rfl
    ) (fun cdv A outer s H vs Q E hr h => ?_)
  · obtain ⟨_, _, _, _, rfl, _⟩ := h
    rfl
  · obtain ⟨v, q, n, cs, rfl, hv, hok, hm, k⟩ := h
    refine ⟨_,
      (pss_cons (ps_set (i := 2) sc_columns_of.nd rfl (by first | exact Or.inl rfl | exact Or.inr rfl) pe_dnewK)
    (pss_cons (ps_for PassesOwn.never rfl (pi_tupK (K := K) rfl (pe_slice (sl_tupK (K := K) rfl) (pv 0) po_none (po_some (pe_un un_neg pe_int)))) (pg_tupK (n := 2) (K := K) rfl rfl (pgs_cons (pg_name (i := 3) sc_columns_of.nd rfl (by first | exact Or.inl rfl | exact Or.inr rfl)) (pgs_cons (pg_name (i := 4) sc_columns_of.nd rfl (by first | exact Or.inl rfl | exact Or.inr rfl)) pgs_nil)))
    (pss_one (ps_dput (hu_of hr) (pv 2) (pv 3) (pe_df D_columns_made hr (pa_cons (pv 4) (pa_cons (pv 2) pa_nil))) rfl)))
    (pss_one (ps_ret (pe_dget (hu_of hr) (pv 2) (pv 1) (fun _ _ => rfl))))))
      , ?_⟩
    walk_at "rd2"
    intro d hd
    have e0 : Sm T H _ := Sm.new (o := .dK []) hd
    have h0 : DKR Tp (upd H d (.dK [])) d [] := ⟨[], upd_same, .nil⟩
    generalize upd H d (.dK []) = H0 at e0 h0
    refine forT (T := T) q.steps stepK (fun Q' k' => ?_) (fun i σ' H' => (∃ a b, σ' = [some v, some (.str n), some (.ref d), a, b]) ∧ Sm T H H' ∧ DKR Tp H' d ((q.cols.take i).map fun c => (c.1, colsK c.2))) (fun H' e => ⟨⟨_, _, rfl⟩, e0.trans e, DKR.sm (fun _ _ r => Tp.ts e.ts _ _ r) e h0⟩) (fun i x a σ' H' N hi ts tx p hN => ?_) fun σ' H' ts p => ?_
    · walk_at "rd2"
      exact sl_d (T := T) (es := q.steps.map stepK) (Tp.ts e0.ts _ _ hv) (by rfl) fun v' H' e t => k' v' H' e t
    · obtain ⟨⟨z1, z2, rfl⟩, e1, dk⟩ := p
      refine gT2 tx fun v1 v2 t1 t2 => ?_
      obtain rfl := t1.text_inv
      walk_at "rd2"
      have made : ∃ c, q.cols[i]? = some c ∧ c.1 = a.1 ∧ ∀ (Q' : VK) E', (∀ v' H3, Sm T H' H3 → Tp H3 v' (colsK c.2) → Q' v' H3) → sp_cmade T [v2, V.ref d] H' Q' E' := by
        match i, hi, dk with
        | 0, hi, dk =>
          obtain rfl := Option.some.inj hi
          exact ⟨("x", q.L), rfl, rfl, fun Q' E' k' => ⟨v2, d, rfl, .inl ⟨q.L, t2, fun v' t => k' v' H' (Sm.refl _ _) t⟩⟩⟩
        | 1, hi, dk =>
          obtain rfl := Option.some.inj hi
          exact ⟨("y", q.R), rfl, rfl, fun Q' E' k' => ⟨v2, d, rfl, .inl ⟨q.R, t2, fun v' t => k' v' H' (Sm.refl _ _) t⟩⟩⟩
        | 2, hi, dk =>
          obtain rfl := Option.some.inj hi
          exact ⟨("j", joinCols q), rfl, rfl, fun Q' E' k' => ⟨v2, d, rfl, .inr ⟨q, t2, dk, hok, k'⟩⟩⟩
        | i + 3, hi, dk => exact absurd (show (none : Option (Str × NestedKey)) = some a from hi) (by simp)
      obtain ⟨c, hc, ec, hmade⟩ := made
      refine hmade _ _ fun v3 H3 e3 t3 => ?_
      have dk3 := DKR.sm (fun _ _ r => Tp.ts e3.ts _ _ r) e3 dk
      have hlt : i < q.cols.length := (List.getElem?_eq_some_iff.mp hc).1
      have hn' : a.1 ∉ ((q.cols.take i).map fun c => (c.1, colsK c.2)).map (·.1) := by
        rw [List.map_map, ← ec]
        intro hmem
        obtain ⟨c', hc', e'⟩ := List.mem_map.mp hmem
        obtain ⟨j, hj⟩ := List.mem_iff_getElem?.mp hc'
        have hji : j < i := by
          have := (List.getElem?_eq_some_iff.mp hj).1
          rw [List.length_take] at this
          omega
        rw [List.getElem?_take_of_lt hji] at hj
        have nd : (q.cols.map (·.1)).Nodup := q.nd
        have e1 : (q.cols.map (·.1))[j]? = (q.cols.map (·.1))[i]? := by rw [List.getElem?_map, List.getElem?_map, hj, hc]; exact congrArg some e'
        have := (List.getElem?_inj (by rw [List.length_map]; omega) nd).mp e1
        omega
      obtain ⟨o, g, dk4, mu⟩ := dk_put (v := v3) (b := colsK c.2) dk3 hn' (by rw [List.length_map, List.length_take]; show min i 3 ≤ _; omega) (fun _ _ _ _ xb r => Tp.ts xb.1 _ _ r) t3
      refine ⟨d, rfl, _, g, hN _ _ (e3.ts.trans (TS.mu mu)) ⟨⟨_, _, rfl⟩, (e1.trans e3).mut hd mu, ?_⟩⟩
      rw [List.take_add_one, hc, List.map_append]
      rw [← ec] at dk4
      exact dk4
    · obtain ⟨⟨z1, z2, rfl⟩, e1, dk⟩ := p
      walk_at "rd2"
      obtain ⟨v1, g1, t1⟩ := dk_got (n := n) (b := colsK cs) dk (by rw [List.map_map]; exact q.nd) (List.mem_map.mpr ⟨(n, cs), by simpa [Qry.cols, Qry.steps] using hm, rfl⟩)
      exact ⟨d, rfl, v1, g1, k v1 H' e1 t1⟩
end K67
end
/-! ## K67M1 -/
section
set_option maxHeartbeats 4000000
/-! K67M1: bags, places -/
namespace K67
open PySem PySem.Spec PyProof.Rows L2 LamX
local macro_rules | `(tactic| walk_at "sm") => `(tactic| first | assumption | exact Sm.refl _ _ | (refine Sm.trans ?_ (by assumption); walk_at "sm"))
local macro_rules | `(tactic| walk_at "ts") => `(tactic| first | assumption | exact TS.refl _ | (refine TS.trans ?_ (by assumption); walk_at "ts") | (refine TS.trans ?_ (Sm.ts (by assumption)); walk_at "ts"))
local macro_rules | `(tactic| walk_at "tp") => `(tactic| first | assumption | exact Tp.int _ | exact Tp.str _ | exact Tp.non | (refine Tp.ts (H := ?_) ?_ _ _ (by assumption); walk_at "ts"))
local macro_rules | `(tactic| walk_at "tps") => `(tactic| first | assumption | exact Tps.nil | (refine Tps.cons ?_ ?_; · walk_at "tp"; · walk_at "tps") | (refine Tps.ts (H := ?_) ?_ _ _ (by assumption); walk_at "ts"))
local macro_rules | `(tactic| walk_at "rd") => `(tactic| try simp only [rMax2, and_assoc, tYes, tSeq, tIfS, tRet, tNext, tTest, tB, tOp, tUn, tVar, tC, tTup, tLst, tCons, tNil, tIf, tCB, tCall, tBM, tBM0, tAsg, gName, gCons, gNil, gSub, tDrop, tPar, tPar3, tAug, tAnd, tOr, tNot, tAndV, tOrV, tNotV, tChain, tSl, tPart, tNoPart, rI0, rI, rU, rEq, rNe, L2.start, wipe, sz0, sz1, sz2, sz3, sz4, sz5, sz6, List.map_cons, List.map_nil, List.length_cons, List.length_nil, List.cons_append, List.nil_append, List.append_nil, List.getElem?_cons_zero, List.getElem?_cons_succ, List.set_cons_zero, List.set_cons_succ, List.replicate_zero, List.replicate_succ, Option.some.injEq, V.bl.injEq, V.int.injEq, V.str.injEq, List.cons.injEq, and_true, true_and, exists_eq_left', exists_eq_left, exists_eq', exists_eq, exists_and_left, Nat.reduceSub, Nat.reduceAdd, Nat.reduceLeDiff, decide_true, decide_false, if_true, if_false, Bool.false_eq_true, reduceIte])
local macro_rules | `(tactic| walk_at "rd2") => `(tactic| try simp only [tDGet, sDPut, tDNewK, tNNew, tNGet2, tNSetd, tNGet, sNPut, tTupF, tCKw, tDead, sDead, tDispN, tPairs, StX.tStar, rNeDN, rNeDN2, rMax2, and_assoc, tYes, tSeq, tIfS, tRet, tNext, tTest, tB, tOp, tUn, tVar, tC, tTup, tLst, tCons, tNil, tIf, tCB, tCall, tBM, tBM0, tAsg, gName, gCons, gNil, gSub, tDrop, tPar, tPar3, tAug, tAnd, tOr, tNot, tAndV, tOrV, tNotV, tChain, tSl, tPart, tNoPart, rI0, rI, rU, rEq, rNe, L2.start, wipe, sz0, sz1, sz2, sz3, sz4, sz5, sz6, List.map_cons, List.map_nil, List.length_cons, List.length_nil, List.cons_append, List.nil_append, List.append_nil, List.getElem?_cons_zero, List.getElem?_cons_succ, List.set_cons_zero, List.set_cons_succ, List.replicate_zero, List.replicate_succ, Option.some.injEq, V.bl.injEq, V.int.injEq, V.str.injEq, List.cons.injEq, and_true, true_and, exists_eq_left', exists_eq_left, exists_eq', exists_eq, exists_and_left, Nat.reduceSub, Nat.reduceAdd, Nat.reduceLeDiff, decide_true, decide_false, if_true, if_false, Bool.false_eq_true, reduceIte])

def incV : Option V → V
  | some (.int n) => .int (n + 1)
  | _ => .int 1
def bagV (ks : List NestedKey) : List (NestedKey × V) := ks.foldl (fun acc k => putK acc k (incV (valV acc k))) []
def IntV (kvs : List (NestedKey × V)) : Prop := (kvs.map (·.1)).Nodup ∧ ∀ p ∈ kvs, ∃ n, p.2 = V.int n
theorem val_mem {kvs : List (NestedKey × V)} {k : NestedKey} {v : V} (h : valV kvs k = some v) : (k, v) ∈ kvs := by
  induction kvs with
  | nil => cases h
  | cons p kvs ih =>
    by_cases e : p.1 = k
    · rw [valV_pos e] at h
      obtain ⟨a, b⟩ := p
      cases h
      exact e ▸ List.mem_cons_self
    · rw [valV_neg e] at h
      exact List.mem_cons_of_mem _ (ih h)
theorem intV_val {kvs : List (NestedKey × V)} (h : IntV kvs) (k : NestedKey) : ∃ n, (valV kvs k).getD (.int 0) = .int n ∧ incV (valV kvs k) = .int (n + 1) := by
  cases e : valV kvs k with
  | none => exact ⟨0, rfl, rfl⟩
  | some v =>
    obtain ⟨n, rfl⟩ : ∃ n, v = .int n := h.2 _ (val_mem e)
    exact ⟨n, rfl, rfl⟩
theorem intV_put {kvs : List (NestedKey × V)} (h : IntV kvs) (k : NestedKey) (n : Int) : IntV (putK kvs k (.int n)) := by
  unfold putK
  split
  · rename_i hk
    refine ⟨?_, fun p hp => ?_⟩
    · have e : (kvs.map fun kv => if kv.1 = k then (kv.1, V.int n) else kv).map (·.1) = kvs.map (·.1) := by
        rw [List.map_map]
        refine List.map_congr_left fun p _ => ?_
        show (if p.1 = k then (p.1, V.int n) else p).1 = p.1
        split <;> rfl
      rw [e]
      exact h.1
    · obtain ⟨q, hq, rfl⟩ := List.mem_map.mp hp
      by_cases e : q.1 = k
      · exact ⟨n, by rw [if_pos e]⟩
      · rw [if_neg e]; exact h.2 q hq
  · rename_i hk
    refine ⟨?_, fun p hp => ?_⟩
    · rw [List.map_append, List.nodup_append]
      refine ⟨h.1, by simp, fun a ha b hb e => hk ?_⟩
      obtain ⟨q, hq, rfl⟩ := List.mem_map.mp ha
      have : b = k := by simpa using hb
      exact List.any_eq_true.mpr ⟨q, hq, decide_eq_true (e.trans this)⟩
    · rcases List.mem_append.mp hp with hp | hp
      · exact h.2 p hp
      · obtain rfl := List.mem_singleton.mp hp
        exact ⟨n, rfl⟩
theorem bagV_snoc (ks : List NestedKey) (k : NestedKey) : bagV (ks ++ [k]) = putK (bagV ks) k (incV (valV (bagV ks) k)) := by unfold bagV; rw [List.foldl_append]; rfl
theorem bagV_int (ks : List NestedKey) : IntV (bagV ks) := by
  have key : ∀ (ks : List NestedKey) (acc : List (NestedKey × V)), IntV acc → IntV (ks.foldl (fun acc k => putK acc k (incV (valV acc k))) acc) := by
    intro ks
    induction ks with
    | nil => exact fun _ h => h
    | cons k ks ih =>
      intro acc h
      refine ih _ ?_
      obtain ⟨n, _, e⟩ := intV_val h k
      show IntV (putK acc k (incV (valV acc k)))
      rw [e]
      exact intV_put h k _
  exact key ks [] ⟨List.nodup_nil, fun _ h => by cases h⟩
theorem bagV_same (ks : List NestedKey) : SameK (bagV ks) (bagV ks) := ⟨rfl, fun p hp => ⟨val_nodup (bagV_int ks).1 p hp, by obtain ⟨n, e⟩ := (bagV_int ks).2 p hp; rw [e]; rfl⟩⟩
theorem bagV_len (ks : List NestedKey) : (bagV ks).length ≤ ks.length := by
  have key : ∀ (ks : List NestedKey) (acc : List (NestedKey × V)), (ks.foldl (fun acc k => putK acc k (incV (valV acc k))) acc).length ≤ acc.length + ks.length := by
    intro ks
    induction ks with
    | nil => exact fun _ => Nat.le_refl _
    | cons k ks ih =>
      intro acc
      have h1 := ih (putK acc k (incV (valV acc k)))
      have h2 := length_putK acc k (incV (valV acc k))
      rw [List.foldl_cons, List.length_cons]
      omega
  have := key ks []
  unfold bagV
  simpa using this
section
variable (P : Program) (w : World) (T : List (Addr × Str))
def sp_bag : Sp := fun vs H Q _ => ∃ (a : Addr) (xs : List V) (ks : List NestedKey), vs = [.ref a] ∧ H a = some (.lst xs) ∧ Tps H xs ks ∧ (∀ k ∈ ks, (∃ ds, k = .tup ds) ∧ k.depth ≤ 8) ∧ ks.length ≤ 10000 ∧
  ∀ d H', Sm T H H' → H d = none → DictK P w H' d (bagV ks) → Q (.ref d) H'
end
variable {P : Program} {w : World} {K : PySem.W.Frag} {mg : Str → Option Value} {base : Heap} {T : List (Addr × Str)} {f : Addr} {fd : FuncData}
abbrev N_bag_of : List Str := ["rows", "found", "row"]
theorem sc_bag_of : FnScope N_bag_of ["rows"] (defScope s_bag_of) := ⟨rfl, rfl, rfl, by decide +kernel, rfl, by decide +kernel, by decide +kernel⟩
theorem ok_bag_of (B : Bs mg) (hg : mg "bag_of" = some (.ref f)) (F : FnP K "bag_of" s_bag_of f fd) : Df P w K mg base "bag_of" 1 ["rows"] (sp_bag P w T) := by
  refine df_mk hg F sc_bag_of (fun vs H Q E h => ?_) (fun _ _ _ _ _ _ us hl => match us, hl with | [_], _ => rfl) (fun cdv A outer s H vs Q E hr h => ?_)
  · obtain ⟨_, _, _, rfl, _⟩ := h
    rfl
  · obtain ⟨a, xs, ks, rfl, ha, ht, hk, hl, k⟩ := h
    refine ⟨_,
      (pss_cons (ps_set (i := 1) sc_bag_of.nd rfl (by first | exact Or.inl rfl | exact Or.inr rfl) (pe_nnew (P := P) (w := w) rfl rfl))
    (pss_cons (ps_for PassesOwn.never rfl (pi_listK (K := K) rfl (pv 0)) (pg_name (i := 2) sc_bag_of.nd rfl (by first | exact Or.inl rfl | exact Or.inr rfl))
    (pss_one (ps_nput (P := P) (w := w) rfl rfl (hu9 hr) (pv 1) (pv 2) (pe_op op_add (pe_nget2 (P := P) (w := w) rfl rfl (hu9 hr) (pv 1) (pv 2) pe_int ⟨by rfl, by rfl, by rfl, by rfl⟩) pe_int) rfl)))
    (pss_one (ps_ret (pv 1)))))
      , ?_⟩
    walk_at "rd2"
    intro d hd
    have e0 : Sm T H _ := Sm.new (o := DN P w d []) hd
    have h0 : DictK P w (upd H d (DN P w d [])) d [] := ⟨[], dn_new, rfl⟩
    generalize upd H d (DN P w d []) = H0 at e0 h0
    refine forL (fun H v (k : NestedKey) => Tp H v k) ks (fun Q' k' => ?_) (e0.lst ha) (Tps.ts e0.ts _ _ ht).pr (fun i σ' H' => (∃ z, σ' = [some (.ref a), some (.ref d), z]) ∧ Sm T H H' ∧ DictK P w H' d (bagV (ks.take i))) ⟨⟨_, rfl⟩, e0, h0⟩ (fun i σ' H' _ p => p.2.1.lst ha) (fun H' v b ts t => Tp.ts ts _ _ t) (fun i x b σ' H' N hi ts tx p hN => ?_) fun σ' H' ts p => ?_
    · walk_at "rd2"
      exact k'
    · obtain ⟨⟨z, rfl⟩, e1, es, dE, he⟩ := p
      walk_at "rd2"
      have hdi : (bagV (ks.take i)).length ≤ i := Nat.le_trans (bagV_len _) (List.length_take_le _ _)
      have hi' : i < ks.length := (List.getElem?_eq_some_iff.mp hi).1
      obtain ⟨⟨ds, rfl⟩, dp⟩ := hk b (List.mem_of_getElem? hi)
      obtain ⟨p, ys, rfl, _, _⟩ := tx.tup_inv
      obtain ⟨n, en, ei⟩ := intV_val (bagV_int (ks.take i)) (.tup ds)
      refine ⟨d, rfl, ⟨es, dE⟩, es, dE, p, rfl, _, tx, dp, ?_⟩
      rw [he, en]
      walk_at "rd2"
      have hz : es.length < sizeLine := sz_lt' (by rw [← kvs_len, he]; omega)
      refine ⟨d, rfl, p, rfl, es, dE, _, tx, dp, hz, hN _ _ (TS.mu dE.mu) ⟨⟨_, rfl⟩, e1.mut hd dE.mu, storeE es (.tup ds) p (.int (n + 1)), DictE.put dE tx dp, ?_⟩⟩
      rw [storeE_kvs, he, List.take_add_one, hi, ← ei]
      exact (bagV_snoc _ _).symm
    · obtain ⟨⟨z, rfl⟩, e1, dk⟩ := p
      walk_at "rd2"
      rw [List.take_length] at dk
      exact k d H' e1 hd dk
abbrev N__law_bag : List Str := ["_law_rows", "_law_found", "_law_row"]
theorem sc__law_bag : FnScope N__law_bag ["_law_rows"] (defScope s__law_bag) := ⟨rfl, rfl, rfl, by decide +kernel, rfl, by decide +kernel, by decide +kernel⟩
theorem ok__law_bag (B : Bs mg) (hg : mg "_law_bag" = some (.ref f)) (F : FnP K "_law_bag" s__law_bag f fd) : Df P w K mg base "_law_bag" 1 ["_law_rows"] (sp_bag P w T) := by
  refine df_mk hg F sc__law_bag (fun vs H Q E h => ?_) (fun _ _ _ _ _ _ us hl => match us, hl with | [_], _ => rfl) (fun cdv A outer s H vs Q E hr h => ?_)
  · obtain ⟨_, _, _, rfl, _⟩ := h
    rfl
  · obtain ⟨a, xs, ks, rfl, ha, ht, hk, hl, k⟩ := h
    refine ⟨_,
      (pss_cons (ps_set (i := 1) sc__law_bag.nd rfl (by first | exact Or.inl rfl | exact Or.inr rfl) (pe_nnew (P := P) (w := w) rfl rfl))
    (pss_cons (ps_for PassesOwn.never rfl (pi_listK (K := K) rfl (pv 0)) (pg_name (i := 2) sc__law_bag.nd rfl (by first | exact Or.inl rfl | exact Or.inr rfl))
    (pss_one (ps_nput (P := P) (w := w) rfl rfl (hu9 hr) (pv 1) (pv 2) (pe_op op_add (pe_nget2 (P := P) (w := w) rfl rfl (hu9 hr) (pv 1) (pv 2) pe_int ⟨by rfl, by rfl, by rfl, by rfl⟩) pe_int) rfl)))
    (pss_one (ps_ret (pv 1)))))
      , ?_⟩
    walk_at "rd2"
    intro d hd
    have e0 : Sm T H _ := Sm.new (o := DN P w d []) hd
    have h0 : DictK P w (upd H d (DN P w d [])) d [] := ⟨[], dn_new, rfl⟩
    generalize upd H d (DN P w d []) = H0 at e0 h0
    refine forL (fun H v (k : NestedKey) => Tp H v k) ks (fun Q' k' => ?_) (e0.lst ha) (Tps.ts e0.ts _ _ ht).pr (fun i σ' H' => (∃ z, σ' = [some (.ref a), some (.ref d), z]) ∧ Sm T H H' ∧ DictK P w H' d (bagV (ks.take i))) ⟨⟨_, rfl⟩, e0, h0⟩ (fun i σ' H' _ p => p.2.1.lst ha) (fun H' v b ts t => Tp.ts ts _ _ t) (fun i x b σ' H' N hi ts tx p hN => ?_) fun σ' H' ts p => ?_
    · walk_at "rd2"
      exact k'
    · obtain ⟨⟨z, rfl⟩, e1, es, dE, he⟩ := p
      walk_at "rd2"
      have hdi : (bagV (ks.take i)).length ≤ i := Nat.le_trans (bagV_len _) (List.length_take_le _ _)
      have hi' : i < ks.length := (List.getElem?_eq_some_iff.mp hi).1
      obtain ⟨⟨ds, rfl⟩, dp⟩ := hk b (List.mem_of_getElem? hi)
      obtain ⟨p, ys, rfl, _, _⟩ := tx.tup_inv
      obtain ⟨n, en, ei⟩ := intV_val (bagV_int (ks.take i)) (.tup ds)
      refine ⟨d, rfl, ⟨es, dE⟩, es, dE, p, rfl, _, tx, dp, ?_⟩
      rw [he, en]
      walk_at "rd2"
      have hz : es.length < sizeLine := sz_lt' (by rw [← kvs_len, he]; omega)
      refine ⟨d, rfl, p, rfl, es, dE, _, tx, dp, hz, hN _ _ (TS.mu dE.mu) ⟨⟨_, rfl⟩, e1.mut hd dE.mu, storeE es (.tup ds) p (.int (n + 1)), DictE.put dE tx dp, ?_⟩⟩
      rw [storeE_kvs, he, List.take_add_one, hi, ← ei]
      exact (bagV_snoc _ _).symm
    · obtain ⟨⟨z, rfl⟩, e1, dk⟩ := p
      walk_at "rd2"
      rw [List.take_length] at dk
      exact k d H' e1 hd dk
abbrev N_place_of : List Str := ["row", "time", "sign", "values"]
theorem sc_place_of : FnScope N_place_of ["row"] (defScope s_place_of) := ⟨rfl, rfl, rfl, by decide +kernel, rfl, by decide +kernel, by decide +kernel⟩
theorem ok_place_of (B : Bs mg) (D_ranks : Df P w K mg base "ranks" 2 ["values"] (sp_ranks T)) (hg : mg "place_of" = some (.ref f)) (F : FnP K "place_of" s_place_of f fd) : Df P w K mg base "place_of" 3 ["row"] (sp_given T) := by
  refine df_mk hg F sc_place_of (fun vs H Q E h => ?_) (fun _ _ _ _ _ _ us hl => match us, hl with | [_], _ => rfl) (fun cdv A outer s H vs Q E hr h => ?_)
  · obtain ⟨_, _, rfl, _⟩ := h
    rfl
  · obtain ⟨v, r, rfl, hv, ok, k⟩ := h
    refine ⟨_,
      (pss_cons (ps_asg (pv 0) (pg_tupK (n := 3) (K := K) rfl rfl (pgs_cons (pg_name (i := 1) sc_place_of.nd rfl (by first | exact Or.inl rfl | exact Or.inr rfl)) (pgs_cons (pg_name (i := 2) sc_place_of.nd rfl (by first | exact Or.inl rfl | exact Or.inr rfl)) (pgs_cons (pg_name (i := 3) sc_place_of.nd rfl (by first | exact Or.inl rfl | exact Or.inr rfl)) pgs_nil)))))
    (pss_one (ps_ret (pe_tup (pa_cons (pv 1) (pa_cons (pv 2) (pa_cons (pe_df D_ranks hr (pa_cons (pv 3) pa_nil)) pa_nil)))))))
      , ?_⟩
    walk_at "rd2"
    refine gT3 hv fun v1 v2 v3 t1 t2 t3 => ?_
    obtain rfl := t1.num_inv
    obtain rfl := t2.num_inv
    walk_at "rd2"
    refine ⟨_, _, rfl, t3, ok.1, by have := ok.2.1; omega, fun v2 H2 e2 t2 => ?_⟩
    walk_at "rd2"
    exact tup_d (T := T) (Tps.cons (.int _) (.cons (.int _) (.cons t2 .nil))) fun v4 H4 e4 t4 => k v4 H4 (e2.trans e4) t4
end K67
end
/-! ## K67M2 -/
section
set_option maxHeartbeats 4000000
/-! K67M2: lots put together, worths of columns -/
namespace K67
open PySem PySem.Spec PyProof.Rows L2 LamX
local macro_rules | `(tactic| walk_at "sm") => `(tactic| first | assumption | exact Sm.refl _ _ | (refine Sm.trans ?_ (by assumption); walk_at "sm"))
local macro_rules | `(tactic| walk_at "ts") => `(tactic| first | assumption | exact TS.refl _ | (refine TS.trans ?_ (by assumption); walk_at "ts") | (refine TS.trans ?_ (Sm.ts (by assumption)); walk_at "ts"))
local macro_rules | `(tactic| walk_at "tp") => `(tactic| first | assumption | exact Tp.int _ | exact Tp.str _ | exact Tp.non | (refine Tp.ts (H := ?_) ?_ _ _ (by assumption); walk_at "ts"))
local macro_rules | `(tactic| walk_at "tps") => `(tactic| first | assumption | exact Tps.nil | (refine Tps.cons ?_ ?_; · walk_at "tp"; · walk_at "tps") | (refine Tps.ts (H := ?_) ?_ _ _ (by assumption); walk_at "ts"))
local macro_rules | `(tactic| walk_at "rd") => `(tactic| try simp only [rMax2, and_assoc, tYes, tSeq, tIfS, tRet, tNext, tTest, tB, tOp, tUn, tVar, tC, tTup, tLst, tCons, tNil, tIf, tCB, tCall, tBM, tBM0, tAsg, gName, gCons, gNil, gSub, tDrop, tPar, tPar3, tAug, tAnd, tOr, tNot, tAndV, tOrV, tNotV, tChain, tSl, tPart, tNoPart, rI0, rI, rU, rEq, rNe, L2.start, wipe, sz0, sz1, sz2, sz3, sz4, sz5, sz6, List.map_cons, List.map_nil, List.length_cons, List.length_nil, List.cons_append, List.nil_append, List.append_nil, List.getElem?_cons_zero, List.getElem?_cons_succ, List.set_cons_zero, List.set_cons_succ, List.replicate_zero, List.replicate_succ, Option.some.injEq, V.bl.injEq, V.int.injEq, V.str.injEq, List.cons.injEq, and_true, true_and, exists_eq_left', exists_eq_left, exists_eq', exists_eq, exists_and_left, Nat.reduceSub, Nat.reduceAdd, Nat.reduceLeDiff, decide_true, decide_false, if_true, if_false, Bool.false_eq_true, reduceIte])
local macro_rules | `(tactic| walk_at "rd2") => `(tactic| try simp only [tDGet, sDPut, tDNewK, tNNew, tNGet2, tNSetd, tNGet, sNPut, tTupF, tCKw, tDead, sDead, tDispN, tPairs, StX.tStar, rNeDN, rNeDN2, rMax2, and_assoc, tYes, tSeq, tIfS, tRet, tNext, tTest, tB, tOp, tUn, tVar, tC, tTup, tLst, tCons, tNil, tIf, tCB, tCall, tBM, tBM0, tAsg, gName, gCons, gNil, gSub, tDrop, tPar, tPar3, tAug, tAnd, tOr, tNot, tAndV, tOrV, tNotV, tChain, tSl, tPart, tNoPart, rI0, rI, rU, rEq, rNe, L2.start, wipe, sz0, sz1, sz2, sz3, sz4, sz5, sz6, List.map_cons, List.map_nil, List.length_cons, List.length_nil, List.cons_append, List.nil_append, List.append_nil, List.getElem?_cons_zero, List.getElem?_cons_succ, List.set_cons_zero, List.set_cons_succ, List.replicate_zero, List.replicate_succ, Option.some.injEq, V.bl.injEq, V.int.injEq, V.str.injEq, List.cons.injEq, and_true, true_and, exists_eq_left', exists_eq_left, exists_eq', exists_eq, exists_and_left, Nat.reduceSub, Nat.reduceAdd, Nat.reduceLeDiff, decide_true, decide_false, if_true, if_false, Bool.false_eq_true, reduceIte])

def plD (n : Str) (i : Nat) : List NestedKey := [.text n, .num 0, .num (i : Int)]
theorem pl_flat (n : Str) (i : Nat) : flatK (plD n i) := rfl
theorem sort2 {α : Type} (le : α → α → Bool) (p q : α) : [p, q].mergeSort le = if le p q = true then [p, q] else [q, p] := by
  rw [List.mergeSort]
  simp [List.MergeSort.Internal.splitInTwo, List.merge, List.splitAt, List.splitAt.go]
theorem lt_pl {m n : Str} (h : PyData.eqv (.str m) (.str n) = false) (i j : Nat) : PySem.W.dataLt (NestedKey.tup (plD m i)).data (NestedKey.tup (plD n j)).data = PySem.W.dataLt (.str m) (.str n) := by
  show PySem.W.dataLt (.tuple [.str m, .int 0, .int i]) (.tuple [.str n, .int 0, .int j]) = _
  rw [PySem.W.dataLt_tuple, PySem.W.dataLt_cons (by rfl), h]
  rfl
theorem le_xy (i j : Nat) : PySem.W.dataLe false (fun p : List NestedKey => (NestedKey.tup p).data) (plD "x" i) (plD "y" j) = true := by
  show (!PySem.W.dataLt (NestedKey.tup (plD "y" j)).data (NestedKey.tup (plD "x" i)).data) = true
  rw [lt_pl (by decide +kernel)]
  decide +kernel
theorem le_yx (i j : Nat) : PySem.W.dataLe false (fun p : List NestedKey => (NestedKey.tup p).data) (plD "y" j) (plD "x" i) = false := by
  show (!PySem.W.dataLt (NestedKey.tup (plD "x" i)).data (NestedKey.tup (plD "y" j)).data) = false
  rw [lt_pl (by decide +kernel)]
  decide +kernel
section
variable (P : Program) (w : World) (T : List (Addr × Str))
def sp_together : Sp := fun vs H Q _ => ∃ (a : Addr) (v1 v2 : V) (i j : Nat), vs = [.ref a] ∧ H a = some (.lst [v1, v2]) ∧ Tp H v1 (.tup [.tup (plD "x" i)]) ∧ Tp H v2 (.tup [.tup (plD "y" j)]) ∧
  ∀ v' H', Sm T H H' → Tp H' v' (.tup [.tup (plD "x" i), .tup (plD "y" j)]) → Q v' H'
end
variable {P : Program} {w : World} {K : PySem.W.Frag} {mg : Str → Option Value} {base : Heap} {T : List (Addr × Str)} {f : Addr} {fd : FuncData}
abbrev N_together : List Str := ["lots", "lot", "entry"]
theorem sc_together : FnScope N_together ["lots"] (defScope s_together) := ⟨rfl, rfl, rfl, by decide +kernel, rfl, by decide +kernel, by decide +kernel⟩
theorem ok_together (B : Bs mg) (hg : mg "together" = some (.ref f)) (F : FnP K "together" s_together f fd) : Df P w K mg base "together" 1 ["lots"] (sp_together T) := by
  refine df_mk hg F sc_together (fun vs H Q E h => ?_) (fun _ _ _ _ _ _ us hl => match us, hl with | [_], _ => rfl) (fun cdv A outer s H vs Q E hr h => ?_)
  · obtain ⟨_, _, _, _, _, rfl, _⟩ := h
    rfl
  · obtain ⟨a, v1, v2, i, j, rfl, ha, h1, h2, k⟩ := h
    refine ⟨_,
      (pss_one (ps_ret (pe_callTy (tupOfK (K := K) rfl) (by rfl) B.tuple_ (by decide +kernel) (pa_cons (pe_callB (cr_sortSn (T := T) (w := w) rfl rfl hr.units) (by rfl) B.sorted_ (by decide +kernel) (pa_cons (pe_sc2 (w := w) (own := [("lot", 1), ("entry", 2)]) (vs1 := [2]) rfl (hu16 hr) (by rfl) sc_together.nd (pi_listK (K := K) rfl (pv 0)) (blkOk_by (N := N_together) (sc := defScope s_together) (by decide +kernel)) (by decide) (fun _ _ _ _ _ => (pg_name (i := 1) sc_together.nd rfl (by first | exact Or.inl rfl | exact Or.inr rfl))) (fun _ _ _ _ _ => (pi_tupK (K := K) rfl (pv 1))) (fun _ _ _ _ _ => (pg_name (i := 2) sc_together.nd rfl (by first | exact Or.inl rfl | exact Or.inr rfl))) (fun _ _ _ _ _ => (pv 2))) pa_nil)) pa_nil))))
      , ?_⟩
    walk_at "rd2"
    refine ⟨_, rfl, a, rfl, ⟨_, .inl (.inl ha)⟩, fun D hD => ?_⟩
    let dss : List (List NestedKey) := [plD "x" i, plD "y" j]
    let In : Nat → Hp → Prop := fun n H' => n ≤ 2 ∧ Sm T H H' ∧ ∃ L : List (Addr × List NestedKey), H' D = some (SnO w D L) ∧ (L.map (·.2)).Perm (dss.take n) ∧ ∀ p ∈ L, Tp H' (.ref p.1) (.tup p.2)
    refine ⟨fun n m H' => m = 2 - n ∧ In n H', ⟨2, rfl, Nat.zero_le _, Sm.new hD, [], upd_same, .refl _, fun _ h => by cases h⟩, ?_⟩
    rintro n m H' ⟨rfl, hn, e, L, hL, pm, tl⟩
    have ha' : SqL K H' a [v1, v2] := .inl (.inl (e.lst ha))
    by_cases hlt : n < 2
    · refine .inr ⟨⟨_, [v1, v2][n], ha', by simp [hlt]⟩, In (n + 1), fun H'' q => ⟨2 - (n + 1), by omega, rfl, q⟩, fun x H'' y => ?_⟩
      obtain ⟨rfl, y⟩ := y
      have hx := y _ ha'
      obtain ⟨ds, hds, tx⟩ : ∃ ds, dss[n]? = some ds ∧ Tp H'' x (.tup [.tup ds]) := by
        match n, hlt, hx with
        | 0, _, hx => obtain rfl := Option.some.inj hx; exact ⟨_, rfl, Tp.ts e.ts _ _ h1⟩
        | 1, _, hx => obtain rfl := Option.some.inj hx; exact ⟨_, rfl, Tp.ts e.ts _ _ h2⟩
      have nd : dss.Nodup := by
        refine List.nodup_cons.mpr ⟨fun hm => ?_, by simp⟩
        have := List.mem_singleton.mp hm
        have e1 : (("x" : Str)) = "y" := NestedKey.text.inj (List.cons.inj this).1
        exact absurd e1 (by decide +kernel)
      have fl : ∀ es ∈ dss, flatK es := fun es hes => by
        rcases List.mem_cons.mp hes with rfl | hes
        · rfl
        · obtain rfl := List.mem_singleton.mp hes
          rfl
      obtain ⟨b, ys, rfl, hr, hy⟩ := tx.tup_inv
      obtain ⟨y0, r, rfl, t0, hy⟩ := hy.cons_inv
      obtain rfl := hy.nil_inv
      refine ⟨rfl, _, rfl, b, rfl, ⟨_, .inl hr⟩, fun j k H1 => TS H'' H1 ∧ ((j = 0 ∧ k = 1 ∧ In n H1) ∨ (j = 1 ∧ k = 0 ∧ In (n + 1) H1)), ⟨1, TS.refl _, .inl ⟨rfl, rfl, hn, e, L, hL, pm, tl⟩⟩, ?_⟩
      rintro j1 k1 H1 ⟨ts1, ⟨rfl, rfl, _, e1, L1, hL1, pm1, tl1⟩ | ⟨rfl, rfl, q⟩⟩
      · have hr1 : SqT K H1 b [y0] := .inl (ts1 _ _ hr)
        refine .inr ⟨⟨_, y0, hr1, rfl⟩, fun H2 => TS H'' H2 ∧ In (n + 1) H2, fun H2 q => ⟨0, by omega, q.1, .inr ⟨rfl, rfl, q.2⟩⟩, fun x H2 y => ?_⟩
        obtain ⟨rfl, y⟩ := y
        obtain rfl := Option.some.inj (y _ hr1)
        refine ⟨rfl, _, rfl, ?_⟩
        have t1 := Tp.ts ts1 _ _ t0
        obtain ⟨c, zs, rfl, _, _⟩ := t1.tup_inv
        have lenL : L1.length = n := by
          have := pm1.length_eq
          rw [List.length_map, List.length_take] at this
          rw [this]
          show min n 2 = n
          omega
        have hmem : ∀ p ∈ L1, p.2 ∈ dss.take n := fun p hp => pm1.mem_iff.mp (List.mem_map.mpr ⟨p, hp, rfl⟩)
        refine ⟨L1, c, ds, rfl, hL1, fun p hp => ⟨tl1 p hp, fl _ (List.mem_of_mem_take (hmem p hp)), fun eq => ?_⟩, t1, fl _ (List.mem_of_getElem? hds), by omega, fun L' pm' => ?_⟩
        · obtain ⟨q, hq⟩ := List.mem_iff_getElem?.mp (hmem p hp)
          have hqn : q < n := by
            have := (List.getElem?_eq_some_iff.mp hq).1
            rw [List.length_take] at this
            omega
          rw [List.getElem?_take_of_lt hqn, eq] at hq
          have := (List.getElem?_inj (by show q < 2; omega) nd).mp (hq.trans hds.symm)
          omega
        · have mu : Mu (H2 D) := by rw [hL1]; exact mu_SnO
          have ts2 : TS H2 (upd H2 D (SnO w D L')) := TS.mu mu
          refine ⟨ts1.trans ts2, by omega, e1.mut hD mu, L', upd_same, ?_, fun p hp => ?_⟩
          · rw [List.take_add_one, hds]
            refine (pm'.map (·.2)).trans ?_
            rw [List.map_cons]
            exact (pm1.cons ds).trans (List.perm_append_comm (l₁ := [ds]) (l₂ := dss.take n))
          · rcases List.mem_cons.mp (pm'.mem_iff.mp hp) with rfl | hp
            · exact Tp.ts ts2 _ _ t1
            · exact Tp.ts ts2 _ _ (tl1 p hp)
      · exact .inl ⟨⟨_, .inl (ts1 _ _ hr), Nat.le_refl _⟩, q⟩
    · obtain rfl : n = 2 := by omega
      have pm2 : (L.map (·.2)).Perm dss := pm
      have hmem : ∀ p ∈ L, p.2 = plD "x" i ∨ p.2 = plD "y" j := fun p hp => by
        have := pm2.mem_iff.mp (List.mem_map.mpr ⟨p, hp, rfl⟩)
        rcases List.mem_cons.mp this with h | h
        · exact .inl h
        · exact .inr (List.mem_singleton.mp h)
      refine .inl ⟨⟨_, ha', Nat.le_refl _⟩, D, L, rfl, hL, fun p hp => ⟨tl p hp, by rcases hmem p hp with h | h <;> rw [h] <;> rfl⟩, fun p hp => by rcases hmem p hp with h | h <;> rw [h] <;> exact (by decide : 1 ≤ 50), ?_, ?_, fun L' p pL hp => ?_⟩
      · intro d1 hd1 d2 hd2
        obtain ⟨p1, hp1, rfl⟩ := List.mem_map.mp hd1
        obtain ⟨p2, hp2, rfl⟩ := List.mem_map.mp hd2
        rcases hmem p1 hp1 with h | h <;> rcases hmem p2 hp2 with h' | h' <;> rw [h, h'] <;> rfl
      · refine .inl fun d1 hd1 => ?_
        obtain ⟨p1, hp1, rfl⟩ := List.mem_map.mp hd1
        rcases hmem p1 hp1 with h | h <;> rw [h] <;> exact ⟨_, _, rfl⟩
      · have two : ∃ b1 b2, L'.mergeSort (PySem.W.dataLe false fun p => (NestedKey.tup p.2).data) = [(b1, plD "x" i), (b2, plD "y" j)] ∧ (b1, plD "x" i) ∈ L ∧ (b2, plD "y" j) ∈ L := by
          have pm3 := (pL.map (·.2)).trans pm2
          have hl2 : L'.length = 2 := by have := pm3.length_eq; rw [List.length_map] at this; exact this
          obtain ⟨p1, p2, rfl⟩ : ∃ p1 p2, L' = [p1, p2] := by
            match L', hl2 with
            | [p1, p2], _ => exact ⟨p1, p2, rfl⟩
          obtain ⟨b1, d1⟩ := p1
          obtain ⟨b2, d2⟩ := p2
          have m1 : (b1, d1) ∈ L := pL.mem_iff.mp List.mem_cons_self
          have m2 : (b2, d2) ∈ L := pL.mem_iff.mp (List.mem_cons_of_mem _ List.mem_cons_self)
          rw [sort2]
          have hx := (pm3.mem_iff (a := plD "x" i)).mpr List.mem_cons_self
          have hy := (pm3.mem_iff (a := plD "y" j)).mpr (List.mem_cons_of_mem _ List.mem_cons_self)
          rcases hmem _ m1 with h | h <;> rcases hmem _ m2 with h' | h'
          · have h : d1 = _ := h
            have h' : d2 = _ := h'
            subst h h'
            have : plD "y" j = plD "x" i := by
              rcases List.mem_cons.mp hy with z | z
              · exact z
              · rcases List.mem_cons.mp z with z | z
                · exact z
                · cases z
            exact absurd (NestedKey.text.inj (List.cons.inj this).1) (by decide +kernel)
          · have h : d1 = _ := h
            have h' : d2 = _ := h'
            subst h h'
            have := le_xy i j
            exact ⟨b1, b2, by refine if_pos ?_; exact this, m1, m2⟩
          · have h : d1 = _ := h
            have h' : d2 = _ := h'
            subst h h'
            have := le_yx i j
            exact ⟨b2, b1, by refine if_neg fun z => ?_; exact Bool.false_ne_true (this.symm.trans z), m2, m1⟩
          · have h : d1 = _ := h
            have h' : d2 = _ := h'
            subst h h'
            have : plD "x" i = plD "y" j := by
              rcases List.mem_cons.mp hx with z | z
              · exact z
              · rcases List.mem_cons.mp z with z | z
                · exact z
                · cases z
            exact absurd (NestedKey.text.inj (List.cons.inj this).1) (by decide +kernel)
        obtain ⟨b1, b2, es, m1, m2⟩ := two
        rw [es]
        have e3 : Sm T H' (upd H' p (.lst [V.ref b1, V.ref b2])) := Sm.new hp
        refine tuple_d (T := T) (xs := [V.ref b1, V.ref b2]) upd_same (.cons (Tp.ts e3.ts _ _ (tl _ m1)) (.cons (Tp.ts e3.ts _ _ (tl _ m2)) .nil)) fun v' H4 e4 t4 => k v' H4 ((e.trans e3).trans e4) t4
end K67
end
/-! ## K67M3 -/
section
set_option maxHeartbeats 4000000
/-! K67M3: worths of columns, the rows of a source, marks, cut -/
namespace K67
open PySem PySem.Spec PyProof.Rows L2 LamX
local macro_rules | `(tactic| walk_at "sm") => `(tactic| first | assumption | exact Sm.refl _ _ | (refine Sm.trans ?_ (by assumption); walk_at "sm"))
local macro_rules | `(tactic| walk_at "ts") => `(tactic| first | assumption | exact TS.refl _ | (refine TS.trans ?_ (by assumption); walk_at "ts") | (refine TS.trans ?_ (Sm.ts (by assumption)); walk_at "ts"))
local macro_rules | `(tactic| walk_at "tp") => `(tactic| first | assumption | exact Tp.int _ | exact Tp.str _ | exact Tp.non | (refine Tp.ts (H := ?_) ?_ _ _ (by assumption); walk_at "ts"))
local macro_rules | `(tactic| walk_at "tps") => `(tactic| first | assumption | exact Tps.nil | (refine Tps.cons ?_ ?_; · walk_at "tp"; · walk_at "tps") | (refine Tps.ts (H := ?_) ?_ _ _ (by assumption); walk_at "ts"))
local macro_rules | `(tactic| walk_at "rd") => `(tactic| try simp only [rMax2, and_assoc, tYes, tSeq, tIfS, tRet, tNext, tTest, tB, tOp, tUn, tVar, tC, tTup, tLst, tCons, tNil, tIf, tCB, tCall, tBM, tBM0, tAsg, gName, gCons, gNil, gSub, tDrop, tPar, tPar3, tAug, tAnd, tOr, tNot, tAndV, tOrV, tNotV, tChain, tSl, tPart, tNoPart, rI0, rI, rU, rEq, rNe, L2.start, wipe, sz0, sz1, sz2, sz3, sz4, sz5, sz6, List.map_cons, List.map_nil, List.length_cons, List.length_nil, List.cons_append, List.nil_append, List.append_nil, List.getElem?_cons_zero, List.getElem?_cons_succ, List.set_cons_zero, List.set_cons_succ, List.replicate_zero, List.replicate_succ, Option.some.injEq, V.bl.injEq, V.int.injEq, V.str.injEq, List.cons.injEq, and_true, true_and, exists_eq_left', exists_eq_left, exists_eq', exists_eq, exists_and_left, Nat.reduceSub, Nat.reduceAdd, Nat.reduceLeDiff, decide_true, decide_false, if_true, if_false, Bool.false_eq_true, reduceIte])
local macro_rules | `(tactic| walk_at "rd2") => `(tactic| try simp only [tDGet, sDPut, tDNewK, tNNew, tNGet2, tNSetd, tNGet, sNPut, tTupF, tCKw, tDead, sDead, tDispN, tPairs, StX.tStar, rNeDN, rNeDN2, rMax2, and_assoc, tYes, tSeq, tIfS, tRet, tNext, tTest, tB, tOp, tUn, tVar, tC, tTup, tLst, tCons, tNil, tIf, tCB, tCall, tBM, tBM0, tAsg, gName, gCons, gNil, gSub, tDrop, tPar, tPar3, tAug, tAnd, tOr, tNot, tAndV, tOrV, tNotV, tChain, tSl, tPart, tNoPart, rI0, rI, rU, rEq, rNe, L2.start, wipe, sz0, sz1, sz2, sz3, sz4, sz5, sz6, List.map_cons, List.map_nil, List.length_cons, List.length_nil, List.cons_append, List.nil_append, List.append_nil, List.getElem?_cons_zero, List.getElem?_cons_succ, List.set_cons_zero, List.set_cons_succ, List.replicate_zero, List.replicate_succ, Option.some.injEq, V.bl.injEq, V.int.injEq, V.str.injEq, List.cons.injEq, and_true, true_and, exists_eq_left', exists_eq_left, exists_eq', exists_eq, exists_and_left, Nat.reduceSub, Nat.reduceAdd, Nat.reduceLeDiff, decide_true, decide_false, if_true, if_false, Bool.false_eq_true, reduceIte])

theorem tps_pr {H : Hp} {α : Type} {en : α → NestedKey} : ∀ {as : List α} {xs : List V}, Tps H xs (as.map en) → Paired (fun v a => Tp H v (en a)) xs as
  | [], _, h => by rw [h.nil_inv]; exact .nil
  | a :: as, _, h => by
    obtain ⟨v, ws, rfl, h1, h2⟩ := h.cons_inv
    exact .cons h1 (tps_pr h2)
theorem tyl {K : PySem.W.Frag} {H : Hp} {a : Addr} {xs : List V} (h : H a = some (.lst xs)) : tyV K "list" (.ref a) H := .inl ⟨rfl, xs, .inl (.inl h)⟩
theorem lcOr {w1 w2 : TI} {g : TG} {tt : TT} {te : TE} {vs : List Nat} {σ : L2.St} {H : Hp} {Q : VK} (h : tLc w1 g tt te vs σ H Q ∨ tLc w2 g tt te vs σ H Q) : tLc (fun σ H R => w1 σ H R ∨ w2 σ H R) g tt te vs σ H Q := h
def plc (ns : List Str) (n : Str) : Nat := (ns.map NestedKey.text).idxOf (.text n)
def txts (ns : List Str) : List NestedKey := ns.map NestedKey.text
theorem txts_atoms (ns : List Str) : (txts ns).all atomB = true := by unfold txts; rw [List.all_map]; exact List.all_eq_true.mpr fun _ _ => rfl
theorem plc_lt {ns : List Str} {n : Str} (h : n ∈ ns) : plc ns n < ns.length := by
  have := List.idxOf_lt_length_of_mem (List.mem_map.mpr ⟨n, h, rfl⟩ : NestedKey.text n ∈ ns.map NestedKey.text)
  rw [List.length_map] at this
  exact this
def colNames (cs : List Col) : List Str := cs.map (·.1)
section
variable (P : Program) (w : World) (T : List (Addr × Str))
/-- a tuple or a list of these -/
def TL (H : Hp) (v : V) (ds : List NestedKey) : Prop := Tp H v (.tup ds) ∨ ∃ a xs, v = .ref a ∧ H a = some (.lst xs) ∧ Tps H xs ds
def sp_worths : Sp := fun vs H Q _ => ∃ (vc vn vv : V) (cs : List Col) (ns : List Str) (ds : List NestedKey), vs = [vc, vn, vv] ∧ Tp H vc (colsK cs) ∧ TL H vn (txts ns) ∧ Tp H vv (.tup ds) ∧ cs.length ≤ 100 ∧ ns.length ≤ 100 ∧ (∀ n ∈ ns, n ∈ colNames cs) ∧ ds.length = cs.length ∧
  ∀ v' H', Sm T H H' → Tp H' v' (.tup (pickK (ns.map (plc (colNames cs))) ds)) → Q v' H'
end
variable {P : Program} {w : World} {K : PySem.W.Frag} {mg : Str → Option Value} {base : Heap} {T : List (Addr × Str)} {f : Addr} {fd : FuncData}
abbrev N_worths_of : List Str := ["columns", "names", "values", "places", "name", "kind"]
theorem sc_worths_of : FnScope N_worths_of ["columns", "names", "values"] (defScope s_worths_of) := ⟨rfl, rfl, rfl, by decide +kernel, rfl, by decide +kernel, by decide +kernel⟩
theorem ok_worths_of (B : Bs mg) (hg : mg "worths_of" = some (.ref f)) (F : FnP K "worths_of" s_worths_of f fd) : Df P w K mg base "worths_of" 1 ["columns", "names", "values"] (sp_worths T) := by
  refine df_mk hg F sc_worths_of (fun vs H Q E h => ?_) (fun _ _ _ _ _ _ us hl => match us, hl with | [_, _, _], _ => rfl) (fun cdv A outer s H vs Q E hr h => ?_)
  · obtain ⟨_, _, _, _, _, _, rfl, _⟩ := h
    rfl
  · obtain ⟨vc, vn, vv, cs, ns, ds, rfl, hc, hn, hv, lc, ln, hm, ld, k⟩ := h
    refine ⟨_,
      (pss_cons (ps_set (i := 3) sc_worths_of.nd rfl (by first | exact Or.inl rfl | exact Or.inr rfl) (pe_lc (own := [("name", 4), ("kind", 5)]) (by rfl) sc_worths_of.nd (pi_tupK (K := K) rfl (pv 0)) (blkOk_by (N := N_worths_of) (sc := defScope s_worths_of) (by decide +kernel)) (fun _ _ _ _ _ => (pg_tupK (n := 2) (K := K) rfl rfl (pgs_cons (pg_name (i := 4) sc_worths_of.nd rfl (by first | exact Or.inl rfl | exact Or.inr rfl)) (pgs_cons (pg_name (i := 5) sc_worths_of.nd rfl (by first | exact Or.inl rfl | exact Or.inr rfl)) pgs_nil)))) (fun _ _ _ _ _ => pts_nil) (fun _ _ _ _ _ => (pv 4))))
    (pss_one (ps_ret (pe_callTy (tupOfK (K := K) rfl) (by rfl) B.tuple_ (by decide +kernel) (pa_cons (pe_lc (own := [("name", 4)]) (by rfl) sc_worths_of.nd ((pi_or (pi_tupK (K := K) rfl (pv 1)) (pi_listK (K := K) rfl (pv 1)))) (blkOk_by (N := N_worths_of) (sc := defScope s_worths_of) (by decide +kernel)) (fun _ _ _ _ _ => (pg_name (i := 4) sc_worths_of.nd rfl (by first | exact Or.inl rfl | exact Or.inr rfl))) (fun _ _ _ _ _ => pts_nil) (fun _ _ _ _ _ => (pe_ix (ix_tupK (K := K) rfl) (pv 2) (pe_bmK (K := K) rfl PySem.F.plainAttrs_list PySem.F.slot_list_index PySem.F.type_list_index (indexK (K := K) rfl) (pv 3) (pa_cons (pv 4) pa_nil)) (fun _ _ => rfl)))) pa_nil)))))
      , ?_⟩
    walk_at "rd2"
    refine lcT (T := T) cs colK (fun _ => Tp) (fun c => some (.text c.1)) (fun Q' k' => ?_) (by omega) r_tp (fun D i x c H1 ha1 e tx hD Qy Qn hy hnn => ?_) (fun D H1 ys e hD pr => ?_)
    · walk_at "rd2"
      exact k' _ _ (Sm.refl _ _) hc
    · refine gT2 tx fun v1 v2 t1 t2 => ?_
      walk_at "rd2"
      exact hy v1 _ H1 rfl (Sm.refl _ _) t1
    · walk_at "rd2"
      rw [fm_map] at pr
      have epl : cs.map (fun c => NestedKey.text c.1) = txts (colNames cs) := by unfold txts colNames; rw [List.map_map]; rfl
      rw [epl] at pr
      have tn := Tps.of pr
      have fin : ∀ D' H2 ys', Sm T H1 H2 → H2 D' = some (.lst ys') → Paired (Tp H2) ys' (ns.filterMap fun n => some (ds.getD (plc (colNames cs) n) .none)) → rTupOf K [.ref D'] H2 Q := fun D' H2 ys' e2 hD' pr' => by
        refine tuple_d (T := T) hD' (Tps.of pr') fun v' H3 e3 t3 => k v' H3 ((e.trans e2).trans e3) ?_
        rw [fm_map] at t3
        unfold pickK
        rw [List.map_map]
        exact t3
      have turn : ∀ (i : Nat) x n H2, ns[i]? = some n → Sm T H1 H2 → Tp H2 x (.text n) → ∀ (Qy : V → Hp → Prop), (∀ y b H3, some (ds.getD (plc (colNames cs) n) .none) = some b → Sm T H2 H3 → Tp H3 y b → Qy y H3) →
          rIxT K vv (.int ((plc (colNames cs) n : Nat) : Int)) H2 Qy := fun i x n H2 hi e2 tx Qy hy => by
        have hlt := plc_lt (hm n (List.mem_of_getElem? hi))
        unfold colNames at hlt
        rw [List.length_map] at hlt
        refine ix_d (d := ds.getD (plc (colNames cs) n) .none) (Tp.ts (e.trans e2).ts _ _ hv) ?_ fun v t => hy v _ H2 rfl (Sm.refl _ _) t
        rw [List.getD_eq_getElem?_getD, List.getElem?_eq_getElem (by rw [ld]; exact hlt)]
        rfl
      rcases hn with hn | ⟨a, xs, rfl, ha, hxs⟩
      · refine lcOr (.inl ?_)
        refine lcT (T := T) ns .text (fun _ => Tp) (fun n => some (ds.getD (plc (colNames cs) n) .none)) (fun Q' k' => ?_) (by omega) r_tp (fun D' i x n H2 ha1 e2 tx hD' Qy Qn hy hnn => ?_) (fun D' H2 ys' e2 hD' pr' => ?_)
        · walk_at "rd2"
          exact k' _ _ (Sm.refl _ _) (Tp.ts e.ts _ _ hn)
        · walk_at "rd2"
          obtain rfl := tx.text_inv
          have e12 := e.trans e2
          refine ⟨tyl (e2.lst hD), ?_⟩
          refine index_l (e2.lst hD) (Tps.ts e2.ts _ _ tn) (txts_atoms _) tx rfl (List.mem_map.mpr ⟨n, hm n (List.mem_of_getElem? ha1), rfl⟩) ?_
          exact turn i _ n H2 ha1 e2 tx Qy hy
        · exact fin D' H2 ys' e2 hD' pr'
      · refine lcOr (.inr ?_)
        refine lcL (T := T) ns (fun H v n => Tp H v (.text n)) (fun _ => Tp) (fun n => some (ds.getD (plc (colNames cs) n) .none)) (fun Q' k' => ?_) (by omega) (fun _ _ _ _ e t => Tp.ts e.ts _ _ t) r_tp (fun D' i x n H2 ha1 e2 tx hD' Qy Qn hy hnn => ?_) (fun D' H2 ys' e2 hD' pr' => ?_)
        · walk_at "rd2"
          exact k' a xs _ (Sm.refl _ _) (e.lst ha) (tps_pr (Tps.ts e.ts _ _ hxs))
        · walk_at "rd2"
          obtain rfl := tx.text_inv
          refine ⟨tyl (e2.lst hD), ?_⟩
          refine index_l (e2.lst hD) (Tps.ts e2.ts _ _ tn) (txts_atoms _) tx rfl (List.mem_map.mpr ⟨n, hm n (List.mem_of_getElem? ha1), rfl⟩) ?_
          exact turn i _ n H2 ha1 e2 tx Qy hy
        · exact fin D' H2 ys' e2 hD' pr'
end K67
end
/-! ## K67M4 -/
section
set_option maxHeartbeats 4000000
/-! K67M4: parts: late rows, the rows of a source, marks -/
namespace K67
open PySem PySem.Spec PyProof.Rows L2 LamX
local macro_rules | `(tactic| walk_at "sm") => `(tactic| first | assumption | exact Sm.refl _ _ | (refine Sm.trans ?_ (by assumption); walk_at "sm"))
local macro_rules | `(tactic| walk_at "ts") => `(tactic| first | assumption | exact TS.refl _ | (refine TS.trans ?_ (by assumption); walk_at "ts") | (refine TS.trans ?_ (Sm.ts (by assumption)); walk_at "ts"))
local macro_rules | `(tactic| walk_at "tp") => `(tactic| first | assumption | exact Tp.int _ | exact Tp.str _ | exact Tp.non | (refine Tp.ts (H := ?_) ?_ _ _ (by assumption); walk_at "ts"))
local macro_rules | `(tactic| walk_at "tps") => `(tactic| first | assumption | exact Tps.nil | (refine Tps.cons ?_ ?_; · walk_at "tp"; · walk_at "tps") | (refine Tps.ts (H := ?_) ?_ _ _ (by assumption); walk_at "ts"))
local macro_rules | `(tactic| walk_at "rd") => `(tactic| try simp only [rMax2, and_assoc, tYes, tSeq, tIfS, tRet, tNext, tTest, tB, tOp, tUn, tVar, tC, tTup, tLst, tCons, tNil, tIf, tCB, tCall, tBM, tBM0, tAsg, gName, gCons, gNil, gSub, tDrop, tPar, tPar3, tAug, tAnd, tOr, tNot, tAndV, tOrV, tNotV, tChain, tSl, tPart, tNoPart, rI0, rI, rU, rEq, rNe, L2.start, wipe, sz0, sz1, sz2, sz3, sz4, sz5, sz6, List.map_cons, List.map_nil, List.length_cons, List.length_nil, List.cons_append, List.nil_append, List.append_nil, List.getElem?_cons_zero, List.getElem?_cons_succ, List.set_cons_zero, List.set_cons_succ, List.replicate_zero, List.replicate_succ, Option.some.injEq, V.bl.injEq, V.int.injEq, V.str.injEq, List.cons.injEq, and_true, true_and, exists_eq_left', exists_eq_left, exists_eq', exists_eq, exists_and_left, Nat.reduceSub, Nat.reduceAdd, Nat.reduceLeDiff, decide_true, decide_false, if_true, if_false, Bool.false_eq_true, reduceIte])
local macro_rules | `(tactic| walk_at "rd2") => `(tactic| try simp only [tDGet, sDPut, tDNewK, tNNew, tNGet2, tNSetd, tNGet, sNPut, tTupF, tCKw, tDead, sDead, tDispN, tPairs, StX.tStar, rNeDN, rNeDN2, rMax2, and_assoc, tYes, tSeq, tIfS, tRet, tNext, tTest, tB, tOp, tUn, tVar, tC, tTup, tLst, tCons, tNil, tIf, tCB, tCall, tBM, tBM0, tAsg, gName, gCons, gNil, gSub, tDrop, tPar, tPar3, tAug, tAnd, tOr, tNot, tAndV, tOrV, tNotV, tChain, tSl, tPart, tNoPart, rI0, rI, rU, rEq, rNe, L2.start, wipe, sz0, sz1, sz2, sz3, sz4, sz5, sz6, List.map_cons, List.map_nil, List.length_cons, List.length_nil, List.cons_append, List.nil_append, List.append_nil, List.getElem?_cons_zero, List.getElem?_cons_succ, List.set_cons_zero, List.set_cons_succ, List.replicate_zero, List.replicate_succ, Option.some.injEq, V.bl.injEq, V.int.injEq, V.str.injEq, List.cons.injEq, and_true, true_and, exists_eq_left', exists_eq_left, exists_eq', exists_eq, exists_and_left, Nat.reduceSub, Nat.reduceAdd, Nat.reduceLeDiff, decide_true, decide_false, if_true, if_false, Bool.false_eq_true, reduceIte])

inductive En where
  | row (r : Row)
  | mark (m : Int)
def En.k : En → NestedKey
  | .row r => .tup [.text "row", .num r.t, .num r.s, .tup r.vs]
  | .mark m => .tup [.text "mark", .num m]
def partK (p : List En) : NestedKey := .tup (p.map En.k)
/-- no row comes behind a mark that is above its time -/
def lateGo : Int → List En → Prop
  | _, [] => True
  | m, .mark k :: r => lateGo (max m k) r
  | m, .row r :: rest => m ≤ r.t ∧ lateGo m rest
def NoLate (p : List En) : Prop := lateGo 0 p
def EnOk (e : En) : Prop := match e with | .row r => r.ok | .mark _ => True
/-- the rows of a part with their places -/
def srcAt (n : Str) (i : Nat) : En → Option NestedKey
  | .row r => some (.tup [r.k, .tup [.tup (plD n i)]])
  | .mark _ => none
def srcRows (n : Str) (p : List En) : List NestedKey := (List.range p.length).filterMap fun i => p[i]?.bind (srcAt n i)
section
variable (P : Program) (w : World) (T : List (Addr × Str))
def sp_late : Sp := fun vs H Q _ => ∃ (v : V) (p : List En), vs = [v] ∧ Tp H v (partK p) ∧ NoLate p ∧ ∀ a H', Sm T H H' → H a = none → H' a = some (.lst []) → Q (.ref a) H'
def sp_of_source : Sp := fun vs H Q _ => ∃ (n : Str) (v : V) (p : List En), vs = [.str n, v] ∧ Tp H v (.tup [partK p]) ∧ NoLate p ∧ p.length ≤ 1000 ∧ ∀ a xs H', Sm T H H' → H a = none → H' a = some (.lst xs) → Tps H' xs (srcRows n p) → Q (.ref a) H'
def sp_mark_of : Sp := fun vs H Q _ => ∃ (v : V) (p : List En), vs = [v] ∧ Tp H v (partK p) ∧ p.length ≤ 1000 ∧ ∀ (i : Int) H', Sm T H H' → Q (.int i) H'
end
variable {P : Program} {w : World} {K : PySem.W.Frag} {mg : Str → Option Value} {base : Heap} {T : List (Addr × Str)} {f : Addr} {fd : FuncData}
abbrev N_mark_of : List Str := ["part", "entry"]
theorem sc_mark_of : FnScope N_mark_of ["part"] (defScope s_mark_of) := ⟨rfl, rfl, rfl, by decide +kernel, rfl, by decide +kernel, by decide +kernel⟩
theorem ok_mark_of (B : Bs mg) (hg : mg "mark_of" = some (.ref f)) (F : FnP K "mark_of" s_mark_of f fd) : Df P w K mg base "mark_of" 1 ["part"] (sp_mark_of T) := by
  refine df_mk hg F sc_mark_of (fun vs H Q E h => ?_) (fun _ _ _ _ _ _ us hl => match us, hl with | [_], _ => rfl) (fun cdv A outer s H vs Q E hr h => ?_)
  · obtain ⟨_, _, rfl, _⟩ := h
    rfl
  · obtain ⟨v, p, rfl, hv, hl, k⟩ := h
    refine ⟨_,
      (pss_one (ps_ret (pe_callBK (cr_maxDK (K := K) rfl rfl hr.units) (by rfl) B.max_ (by decide +kernel) (pa_cons (pe_lc (own := [("entry", 1)]) (by rfl) sc_mark_of.nd (pi_tupK (K := K) rfl (pv 0)) (blkOk_by (N := N_mark_of) (sc := defScope s_mark_of) (by decide +kernel)) (fun _ _ _ _ _ => (pg_name (i := 1) sc_mark_of.nd rfl (by first | exact Or.inl rfl | exact Or.inr rfl))) (fun _ _ _ _ _ => (pts_one (pt_cmpR op_eq (pe_ix (ix_tupK (K := K) rfl) (pv 1) pe_int (fun _ _ => rfl)) pe_str (nomark _)))) (fun _ _ _ _ _ => (pe_ix (ix_tupK (K := K) rfl) (pv 1) pe_int (fun _ _ => rfl)))) pa_nil) (pk_cons pe_int pk_nil))))
      , ?_⟩
    walk_at "rd2"
    refine lcT (T := T) p En.k (fun _ _ v (i : Int) => v = .int i) (fun e => match e with | .mark m => some m | .row _ => none) (fun Q' k' => ?_) (by omega) (fun _ _ _ _ _ _ h => h) (fun D i x e H1 ha1 e1 tx hD Qy Qn hy hnn => ?_) (fun D H1 ys e hD pr => ?_)
    · walk_at "rd2"
      exact k' _ _ (Sm.refl _ _) hv
    · walk_at "rd2"
      cases e with
      | mark m =>
        refine ix_d (i := 0) tx rfl fun y ty => ?_
        obtain rfl := ty.text_inv
        walk_at "rd2"
        refine ⟨rfl, ?_⟩
        exact ix_d (i := 1) tx rfl fun y ty => hy y m H1 rfl (Sm.refl _ _) ty.num_inv
      | row r =>
        refine ix_d (i := 0) tx rfl fun y ty => ?_
        obtain rfl := ty.text_inv
        walk_at "rd2"
        exact ⟨rfl, ifF (by decide +kernel) (hnn H1 rfl (Sm.refl _ _))⟩
    · walk_at "rd2"
      have e5 : ∀ {ys : List V} {ns : List Int}, Paired (fun v (i : Int) => v = V.int i) ys ns → ys = ns.map V.int := by
        intro ys ns h
        induction h with
        | nil => rfl
        | cons r _ ih => rw [r, ih]; rfl
      have := e5 pr
      exact ⟨D, _, _, rfl, rfl, .inl (.inl (by rw [← this]; exact hD)), fun _ => k 0 H1 e, fun m _ _ => k m H1 e⟩
abbrev N_late_of : List Str := ["part", "found", "mark", "number", "entry"]
theorem sc_late_of : FnScope N_late_of ["part"] (defScope s_late_of) := ⟨rfl, rfl, rfl, by decide +kernel, rfl, by decide +kernel, by decide +kernel⟩
theorem ok_late_of (B : Bs mg) (hg : mg "late_of" = some (.ref f)) (F : FnP K "late_of" s_late_of f fd) : Df P w K mg base "late_of" 1 ["part"] (sp_late T) := by
  refine df_mk hg F sc_late_of (fun vs H Q E h => ?_) (fun _ _ _ _ _ _ us hl => match us, hl with | [_], _ => rfl) (fun cdv A outer s H vs Q E hr h => ?_)
  · obtain ⟨_, _, rfl, _⟩ := h
    rfl
  · obtain ⟨v, p, rfl, hv, hl, k⟩ := h
    refine ⟨_,
      (pss_cons (ps_par (i := 1) (j := 2) (by rfl) sc_late_of.nd rfl rfl (by decide) rfl rfl (pa_cons (pe_lst pa_nil) (pa_cons pe_int pa_nil)) (by rfl))
    (pss_cons (ps_for PassesOwn.never rfl (pi_enumT (K := K) rfl (by rfl) B.enumerate_ (pa_cons (pv 0) pa_nil)) (pg_tupK (n := 2) (K := K) rfl rfl (pgs_cons (pg_name (i := 3) sc_late_of.nd rfl (by first | exact Or.inl rfl | exact Or.inr rfl)) (pgs_cons (pg_name (i := 4) sc_late_of.nd rfl (by first | exact Or.inl rfl | exact Or.inr rfl)) pgs_nil)))
    (pss_one (ps_if (pt_cmpR op_eq (pe_ix (ix_tupK (K := K) rfl) (pv 4) pe_int (fun _ _ => rfl)) pe_str (nomark _)) (pss_one (ps_set (i := 2) sc_late_of.nd rfl (by first | exact Or.inl rfl | exact Or.inr rfl) (pe_callB (call_maxK rfl) (by rfl) B.max_ (by decide +kernel) (pa_cons (pv 2) (pa_cons (pe_ix (ix_tupK (K := K) rfl) (pv 4) pe_int (fun _ _ => rfl)) pa_nil)))))
    (pss_one (ps_if (pt_cmpR op_lt (pe_ix (ix_tupK (K := K) rfl) (pv 4) pe_int (fun _ _ => rfl)) (pv 2) (nomark _)) (pss_one (ps_expr (pe_bmK (K := K) rfl PySem.F.plainAttrs_list PySem.F.slot_list_append PySem.F.type_list_append mt_append (pv 1) (pa_cons (pv 3) pa_nil))))
    pss_nil)))))
    (pss_one (ps_ret (pv 1)))))
      , ?_⟩
    walk_at "rd2"
    intro a ha
    have e0 : Sm T H _ := Sm.new (o := .lst []) ha
    have h0 : (upd H a (.lst [])) a = some (.lst []) := upd_same
    generalize upd H a (.lst []) = H0 at e0 h0
    refine forET (T := T) (p.map En.k) (fun Q' k' => ?_) (fun i σ' H' => ∃ m z1 z2, σ' = [some v, some (.ref a), some (.int m), z1, z2] ∧ lateGo m (p.drop i) ∧ Sm T H H' ∧ H' a = some (.lst [])) (fun H' e => ⟨0, _, _, rfl, hl, e0.trans e, e.lst h0⟩) (fun i q x d σ' H' N hi ts hq tx pv hN => ?_) fun σ' H' ts pv => ?_
    · walk_at "rd2"
      exact k' v _ (Sm.refl _ _) (Tp.ts e0.ts _ _ hv)
    · obtain ⟨m, z1, z2, rfl, hm, e1, h1⟩ := pv
      rw [List.getElem?_map] at hi
      obtain ⟨e, he, rfl⟩ := Option.map_eq_some_iff.mp hi
      refine gP upd_same ?_
      have e2 : Sm T H' (upd H' q (.tup [.int (i : Int), x])) := Sm.new hq
      generalize upd H' q (.tup [.int (i : Int), x]) = H2 at e2 hN
      have tx2 := Tp.ts e2.ts _ _ tx
      have hdrop : p.drop i = e :: p.drop (i + 1) := by
        obtain ⟨hlt, hh⟩ := List.getElem?_eq_some_iff.mp he
        rw [← hh]
        exact List.drop_eq_getElem_cons hlt
      rw [hdrop] at hm
      walk_at "rd2"
      cases e with
      | mark k2 =>
        refine ix_d (i := 0) tx2 rfl fun y ty => ?_
        obtain rfl := ty.text_inv
        walk_at "rd2"
        refine ⟨rfl, ?_⟩
        refine ix_d (i := 1) tx2 rfl fun y ty => ?_
        obtain rfl := ty.num_inv
        walk_at "rd2"
        exact hN _ _ (TS.refl _) ⟨_, _, _, rfl, hm, e1.trans e2, e2.lst h1⟩
      | row r =>
        refine ix_d (i := 0) tx2 rfl fun y ty => ?_
        obtain rfl := ty.text_inv
        walk_at "rd2"
        refine ⟨rfl, ifF (by decide +kernel) ?_⟩
        refine ix_d (i := 1) tx2 rfl fun y ty => ?_
        obtain rfl := ty.num_inv
        walk_at "rd2"
        have hlt : ¬ r.t < m := by have := hm.1; omega
        try rw [if_neg (by simpa using hlt)]
        exact hN _ _ (TS.refl _) ⟨_, _, _, rfl, hm.2, e1.trans e2, e2.lst h1⟩
    · obtain ⟨m, z1, z2, rfl, hm, e1, h1⟩ := pv
      walk_at "rd2"
      exact k a H' e1 ha h1
abbrev N_of_source : List Str := ["name", "parts", "found", "number", "part", "past", "place", "entry"]
theorem sc_of_source : FnScope N_of_source ["name", "parts"] (defScope s_of_source) := ⟨rfl, rfl, rfl, by decide +kernel, rfl, by decide +kernel, by decide +kernel⟩
theorem ok_of_source (B : Bs mg) (D_late_of : Df P w K mg base "late_of" 1 ["part"] (sp_late T)) (hg : mg "of_source" = some (.ref f)) (F : FnP K "of_source" s_of_source f fd) : Df P w K mg base "of_source" 2 ["name", "parts"] (sp_of_source T) := by
  refine df_mk hg F sc_of_source (fun vs H Q E h => ?_) (fun _ _ _ _ _ _ us hl => match us, hl with | [_, _], _ => rfl) (fun cdv A outer s H vs Q E hr h => ?_)
  · obtain ⟨_, _, _, rfl, _⟩ := h
    rfl
  · obtain ⟨n, v, p, rfl, hv, hl, hlen, k⟩ := h
    refine ⟨_,
      (pss_cons (ps_set (i := 2) sc_of_source.nd rfl (by first | exact Or.inl rfl | exact Or.inr rfl) (pe_lst pa_nil))
    (pss_cons (ps_for PassesOwn.never rfl (pi_enumT (K := K) rfl (by rfl) B.enumerate_ (pa_cons (pv 1) pa_nil)) (pg_tupK (n := 2) (K := K) rfl rfl (pgs_cons (pg_name (i := 3) sc_of_source.nd rfl (by first | exact Or.inl rfl | exact Or.inr rfl)) (pgs_cons (pg_name (i := 4) sc_of_source.nd rfl (by first | exact Or.inl rfl | exact Or.inr rfl)) pgs_nil)))
    (pss_cons (ps_set (i := 5) sc_of_source.nd rfl (by first | exact Or.inl rfl | exact Or.inr rfl) (pe_df D_late_of hr (pa_cons (pv 4) pa_nil)))
    (pss_one (ps_for PassesOwn.never rfl (pi_enumT (K := K) rfl (by rfl) B.enumerate_ (pa_cons (pv 4) pa_nil)) (pg_tupK (n := 2) (K := K) rfl rfl (pgs_cons (pg_name (i := 6) sc_of_source.nd rfl (by first | exact Or.inl rfl | exact Or.inr rfl)) (pgs_cons (pg_name (i := 7) sc_of_source.nd rfl (by first | exact Or.inl rfl | exact Or.inr rfl)) pgs_nil)))
    (pss_one (ps_if (PW.pt (pw_and (pt_cmpR op_eq (pe_ix (ix_tupK (K := K) rfl) (pv 7) pe_int (fun _ _ => rfl)) pe_str (nomark _)) (pw_and1 (pt_cmpR (op_notInK (K := K) rfl) (pv 6) (pv 5) (by with_unfolding_all rfl))))) (pss_one (ps_expr (pe_bmK (K := K) rfl PySem.F.plainAttrs_list PySem.F.slot_list_append PySem.F.type_list_append mt_append (pv 2) (pa_cons (pe_tup (pa_cons (pe_slice (sl_tupK (K := K) rfl) (pv 7) (po_some pe_int) po_none) (pa_cons (pe_tup (pa_cons (pe_tup (pa_cons (pv 0) (pa_cons (pv 3) (pa_cons (pv 6) pa_nil)))) pa_nil)) pa_nil))) pa_nil))))
    pss_nil))))))
    (pss_one (ps_ret (pv 2)))))
      , ?_⟩
    walk_at "rd2"
    intro a ha
    have e0 : Sm T H _ := Sm.new (o := .lst []) ha
    have h0 : (upd H a (.lst [])) a = some (.lst []) := upd_same
    generalize upd H a (.lst []) = H0 at e0 h0
    refine forET (T := T) [partK p] (fun Q' k' => ?_) (fun i σ' H' => ∃ z1 z2 z3 z4 z5, σ' = [some (.str n), some v, some (.ref a), z1, z2, z3, z4, z5] ∧ Sm T H H' ∧ ∃ xs, H' a = some (.lst xs) ∧ Tps H' xs (if i = 0 then [] else srcRows n p)) (fun H' e => ⟨_, _, _, _, _, rfl, e0.trans e, [], e.lst h0, .nil⟩) (fun i q x d σ' H' N hi ts hq tx pv hN => ?_) fun σ' H' ts pv => ?_
    · walk_at "rd2"
      exact k' v _ (Sm.refl _ _) (Tp.ts e0.ts _ _ hv)
    · match i, hi with
      | 0, hi =>
        obtain rfl := Option.some.inj hi
        obtain ⟨z1, z2, z3, z4, z5, rfl, e1, xs, hxs, txs⟩ := pv
        refine gP upd_same ?_
        have e2 : Sm T H' (upd H' q (.tup [.int ((0 : Nat) : Int), x])) := Sm.new hq
        generalize upd H' q (.tup [.int ((0 : Nat) : Int), x]) = H2 at e2 hN
        have tx2 := Tp.ts e2.ts _ _ tx
        walk_at "rd2"
        refine ⟨x, p, rfl, tx2, hl, fun b H3 e3 hb hb3 => ?_⟩
        walk_at "rd2"
        have e03 := (e1.trans e2).trans e3
        have ha3 : H3 a = some (.lst xs) := (e2.trans e3).lst hxs
        have hab : a ≠ b := fun z => by rw [← z, e2.lst hxs] at hb; cases hb
        have tx0 : Tps H3 xs [] := by obtain rfl := txs.nil_inv; exact .nil
        clear txs
        refine forET (T := T) (p.map En.k) (fun Q' k' => ?_) (fun i σ' H' => ∃ z1 z2, σ' = [some (.str n), some v, some (.ref a), some (.int 0), some x, some (.ref b), z1, z2] ∧ Sm T H H' ∧ H' b = some (.lst []) ∧ ∃ xs, H' a = some (.lst xs) ∧ Tps H' xs ((List.range i).filterMap fun i => p[i]?.bind (srcAt n i))) (fun H' e => ⟨_, _, rfl, e03.trans e, e.lst hb3, xs, e.lst ha3, Tps.ts e.ts _ _ tx0⟩) (fun i q y d σ' H' N' hi ts hq ty pv hN' => ?_) fun σ' H' ts pv => ?_
        · walk_at "rd2"
          exact k' x _ (Sm.refl _ _) (Tp.ts e3.ts _ _ tx2)
        · obtain ⟨z1, z2, rfl, e1, hb1, xs, hxs, txs⟩ := pv
          rw [List.getElem?_map] at hi
          obtain ⟨e, he, rfl⟩ := Option.map_eq_some_iff.mp hi
          have hil : i < p.length := (List.getElem?_eq_some_iff.mp he).1
          refine gP upd_same ?_
          have e2 : Sm T H' (upd H' q (.tup [.int (i : Int), y])) := Sm.new hq
          generalize upd H' q (.tup [.int (i : Int), y]) = H2 at e2 hN'
          have ty2 := Tp.ts e2.ts _ _ ty
          have txs2 := Tps.ts e2.ts _ _ txs
          walk_at "rd2"
          cases e with
          | mark k2 =>
            refine ix_d (i := 0) ty2 rfl fun y tyy => ?_
            obtain rfl := tyy.text_inv
            walk_at "rd2"
            refine ⟨rfl, ifF (by decide +kernel) ?_⟩
            refine hN' _ _ (TS.refl _) ⟨_, _, rfl, e1.trans e2, e2.lst hb1, xs, e2.lst hxs, ?_⟩
            rw [range_fm, he]
            simpa [srcAt] using txs2
          | row r =>
            refine ix_d (i := 0) ty2 rfl fun y tyy => ?_
            obtain rfl := tyy.text_inv
            walk_at "rd2"
            refine ⟨rfl, ?_⟩
            refine in_l (.int _) rfl (e2.lst hb1) .nil rfl ⟨true, rfl, ifT rfl ?_⟩
            refine ⟨tyl (e2.lst hxs), ?_⟩
            refine sl_d (T := T) (es := [.num r.t, .num r.s, .tup r.vs]) ty2 (by rfl) fun v3 H3 e3 t3 => ?_
            intro q1 hq1
            have e4 : Sm T H3 (upd H3 q1 (.tup [V.str n, .int 0, .int (i : Int)])) := Sm.new hq1
            have t4 : Tp (upd H3 q1 (.tup [V.str n, .int 0, .int (i : Int)])) (.ref q1) (.tup (plD n i)) := tup_new hq1 (.cons (.str _) (.cons (.int _) (.cons (.int _) .nil)))
            generalize upd H3 q1 (.tup [V.str n, .int 0, .int (i : Int)]) = H4 at e4 t4
            intro q2 hq2
            have e5 : Sm T H4 (upd H4 q2 (.tup [V.ref q1])) := Sm.new hq2
            have t5 : Tp (upd H4 q2 (.tup [V.ref q1])) (.ref q2) (.tup [.tup (plD n i)]) := tup_new hq2 (.cons t4 .nil)
            generalize upd H4 q2 (.tup [V.ref q1]) = H5 at e5 t5
            intro q3 hq3
            have e6 : Sm T H5 (upd H5 q3 (.tup [v3, V.ref q2])) := Sm.new hq3
            have t6 : Tp (upd H5 q3 (.tup [v3, V.ref q2])) (.ref q3) (.tup [r.k, .tup [.tup (plD n i)]]) := tup_new hq3 (.cons (Tp.ts (e4.trans e5).ts _ _ t3) (.cons t5 .nil))
            generalize upd H5 q3 (.tup [v3, V.ref q2]) = H6 at e6 t6
            have e26 : Sm T H2 H6 := ((e3.trans e4).trans e5).trans e6
            have hl6 : xs.length ≤ i := by rw [txs.length]; exact fm_len _ i
            refine ⟨a, xs, _, rfl, rfl, e26.lst (e2.lst hxs), sz_lt' (by omega), ?_⟩
            have mu : Mu (H6 a) := by rw [e26.lst (e2.lst hxs)]; exact mu_lst
            have ts7 := TS.mu (o := .lst (xs ++ [V.ref q3])) mu
            refine hN' _ _ (e26.ts.trans ts7) ⟨_, _, rfl, ((e1.trans e2).trans e26).mut ha mu, ?_, _, upd_same, ?_⟩
            · rw [upd_ne hab.symm]; exact e26.lst (e2.lst hb1)
            · rw [range_fm, he]
              exact (Tps.ts (e26.ts.trans ts7) _ _ txs2).append (.cons (Tp.ts ts7 _ _ t6) .nil)
        · obtain ⟨z1, z2, rfl, e1, hb1, xs, hxs, txs⟩ := pv
          rw [List.length_map] at txs
          exact hN _ _ (e3.ts.trans ts) ⟨_, _, _, _, _, rfl, e1, xs, hxs, txs⟩
      | i + 1, hi => exact absurd hi (by simp)
    · obtain ⟨z1, z2, z3, z4, z5, rfl, e1, xs, hxs, txs⟩ := pv
      walk_at "rd2"
      exact k a xs H' e1 ha hxs txs
end K67
end
/-! ## K67M5 -/
section
set_option maxHeartbeats 4000000
/-! K67M5: marks of the steps, cut -/
namespace K67
open PySem PySem.Spec PyProof.Rows L2 LamX
local macro_rules | `(tactic| walk_at "sm") => `(tactic| first | assumption | exact Sm.refl _ _ | (refine Sm.trans ?_ (by assumption); walk_at "sm"))
local macro_rules | `(tactic| walk_at "ts") => `(tactic| first | assumption | exact TS.refl _ | (refine TS.trans ?_ (by assumption); walk_at "ts") | (refine TS.trans ?_ (Sm.ts (by assumption)); walk_at "ts"))
local macro_rules | `(tactic| walk_at "tp") => `(tactic| first | assumption | exact Tp.int _ | exact Tp.str _ | exact Tp.non | (refine Tp.ts (H := ?_) ?_ _ _ (by assumption); walk_at "ts"))
local macro_rules | `(tactic| walk_at "tps") => `(tactic| first | assumption | exact Tps.nil | (refine Tps.cons ?_ ?_; · walk_at "tp"; · walk_at "tps") | (refine Tps.ts (H := ?_) ?_ _ _ (by assumption); walk_at "ts"))
local macro_rules | `(tactic| walk_at "rd") => `(tactic| try simp only [rMax2, and_assoc, tYes, tSeq, tIfS, tRet, tNext, tTest, tB, tOp, tUn, tVar, tC, tTup, tLst, tCons, tNil, tIf, tCB, tCall, tBM, tBM0, tAsg, gName, gCons, gNil, gSub, tDrop, tPar, tPar3, tAug, tAnd, tOr, tNot, tAndV, tOrV, tNotV, tChain, tSl, tPart, tNoPart, rI0, rI, rU, rEq, rNe, L2.start, wipe, sz0, sz1, sz2, sz3, sz4, sz5, sz6, List.map_cons, List.map_nil, List.length_cons, List.length_nil, List.cons_append, List.nil_append, List.append_nil, List.getElem?_cons_zero, List.getElem?_cons_succ, List.set_cons_zero, List.set_cons_succ, List.replicate_zero, List.replicate_succ, Option.some.injEq, V.bl.injEq, V.int.injEq, V.str.injEq, List.cons.injEq, and_true, true_and, exists_eq_left', exists_eq_left, exists_eq', exists_eq, exists_and_left, Nat.reduceSub, Nat.reduceAdd, Nat.reduceLeDiff, decide_true, decide_false, if_true, if_false, Bool.false_eq_true, reduceIte])
local macro_rules | `(tactic| walk_at "rd2") => `(tactic| try simp only [tDGet, sDPut, tDNewK, tNNew, tNGet2, tNSetd, tNGet, sNPut, tTupF, tCKw, tDead, sDead, tDispN, tPairs, StX.tStar, rNeDN, rNeDN2, rMax2, and_assoc, tYes, tSeq, tIfS, tRet, tNext, tTest, tB, tOp, tUn, tVar, tC, tTup, tLst, tCons, tNil, tIf, tCB, tCall, tBM, tBM0, tAsg, gName, gCons, gNil, gSub, tDrop, tPar, tPar3, tAug, tAnd, tOr, tNot, tAndV, tOrV, tNotV, tChain, tSl, tPart, tNoPart, rI0, rI, rU, rEq, rNe, L2.start, wipe, sz0, sz1, sz2, sz3, sz4, sz5, sz6, List.map_cons, List.map_nil, List.length_cons, List.length_nil, List.cons_append, List.nil_append, List.append_nil, List.getElem?_cons_zero, List.getElem?_cons_succ, List.set_cons_zero, List.set_cons_succ, List.replicate_zero, List.replicate_succ, Option.some.injEq, V.bl.injEq, V.int.injEq, V.str.injEq, List.cons.injEq, and_true, true_and, exists_eq_left', exists_eq_left, exists_eq', exists_eq, exists_and_left, Nat.reduceSub, Nat.reduceAdd, Nat.reduceLeDiff, decide_true, decide_false, if_true, if_false, Bool.false_eq_true, reduceIte])

abbrev PartV : Hp → V → List En → Prop := fun H v p => Tp H v (.tup [partK p])
def Told (H : Hp) (d : Addr) (px py : List En) : Prop := DKR PartV H d [("x", px), ("y", py)]
theorem nd_xy : (([("x", ()), ("y", ())] : List (Str × Unit)).map (·.1)).Nodup := by
  show (["x", "y"] : List Str).Nodup
  decide +kernel
theorem Told.sm {T : List (Addr × Str)} {H H' : Hp} {d : Addr} {px py : List En} (e : Sm T H H') (h : Told H d px py) : Told H' d px py := DKR.sm (fun _ _ r => Tp.ts e.ts _ _ r) e h
theorem Told.x {H : Hp} {d : Addr} {px py : List En} (h : Told H d px py) : ∃ v, DGet H d (.str "x") (some v) ∧ Tp H v (.tup [partK px]) := dk_got (R := PartV) (n := "x") (b := px) h (by show (["x", "y"] : List Str).Nodup; decide +kernel) List.mem_cons_self
theorem Told.y {H : Hp} {d : Addr} {px py : List En} (h : Told H d px py) : ∃ v, DGet H d (.str "y") (some v) ∧ Tp H v (.tup [partK py]) := dk_got (R := PartV) (n := "y") (b := py) h (by show (["x", "y"] : List Str).Nodup; decide +kernel) (List.mem_cons_of_mem _ List.mem_cons_self)
abbrev IntR : Hp → V → Unit → Prop := fun _ v _ => ∃ i : Int, v = .int i
theorem ints_sm {T : List (Addr × Str)} {H H' : Hp} {d : Addr} {ps : List (Str × Unit)} (e : Sm T H H') (h : DKR IntR H d ps) : DKR IntR H' d ps := DKR.sm (R := IntR) (H := H) (H' := H') (fun _ _ r => r) e h
def Qry.units (q : Qry) : List (Str × Unit) := [("x", ()), ("y", ()), ("j", ())]
section
variable (P : Program) (w : World) (T : List (Addr × Str))
def sp_marks_of : Sp := fun vs H Q _ => ∃ (v : V) (q : Qry) (d : Addr) (px py : List En), vs = [v, .ref d] ∧ Tp H v q.k ∧ Told H d px py ∧ px.length ≤ 1000 ∧ py.length ≤ 1000 ∧ ∀ a H', Sm T H H' → H a = none → DKR IntR H' a q.units → Q (.ref a) H'
/-- where the parts are cut -/
def Places (H : Hp) (d : Addr) (nx ny : Nat) : Prop := ∃ es, DictE P w H d es ∧ valV (kvsOf es) (.tup [.text "x", .num 0]) = some (.int (nx : Int)) ∧ valV (kvsOf es) (.tup [.text "y", .num 0]) = some (.int (ny : Int))
def sp_cut : Sp := fun vs H Q _ => ∃ (d e : Addr) (px py : List En) (nx ny : Nat), vs = [.ref d, .ref e] ∧ Told H d px py ∧ Places P w H e nx ny ∧ ∀ a H', Sm T H H' → H a = none → Told H' a (px.take nx) (py.take ny) → Q (.ref a) H'
end
variable {P : Program} {w : World} {K : PySem.W.Frag} {mg : Str → Option Value} {base : Heap} {T : List (Addr × Str)} {f : Addr} {fd : FuncData}
abbrev N_marks_of : List Str := ["query", "told", "found", "name", "step", "part", "other"]
theorem sc_marks_of : FnScope N_marks_of ["query", "told"] (defScope s_marks_of) := ⟨rfl, rfl, rfl, by decide +kernel, rfl, by decide +kernel, by decide +kernel⟩
theorem ok_marks_of (B : Bs mg) (D_mark_of : Df P w K mg base "mark_of" 1 ["part"] (sp_mark_of T)) (D_steps_ahead : Df P w K mg base "steps_ahead" 2 ["query", "name"] (sp_steps_ahead T)) (hg : mg "marks_of" = some (.ref f)) (F : FnP K "marks_of" s_marks_of f fd) : Df P w K mg base "marks_of" 3 ["query", "told"] (sp_marks_of T) := by
  refine df_mk hg F sc_marks_of (fun vs H Q E h => ?_) (fun _ _ _ _ _ _ us hl => match us, hl with | [_, _], _ => rfl) (fun cdv A outer s H vs Q E hr h => ?_)
  · obtain ⟨_, _, _, _, _, rfl, _⟩ := h
    rfl
  · obtain ⟨v, q, d, px, py, rfl, hv, hd, lx, ly, k⟩ := h
    refine ⟨_,
      (pss_cons (ps_set (i := 2) sc_marks_of.nd rfl (by first | exact Or.inl rfl | exact Or.inr rfl) pe_dnewK)
    (pss_cons (ps_for PassesOwn.never rfl (pi_tupK (K := K) rfl (pe_slice (sl_tupK (K := K) rfl) (pv 0) po_none (po_some (pe_un un_neg pe_int)))) (pg_tupK (n := 2) (K := K) rfl rfl (pgs_cons (pg_name (i := 3) sc_marks_of.nd rfl (by first | exact Or.inl rfl | exact Or.inr rfl)) (pgs_cons (pg_name (i := 4) sc_marks_of.nd rfl (by first | exact Or.inl rfl | exact Or.inr rfl)) pgs_nil)))
    (pss_one (ps_if (pt_cmpR op_eq (pe_ix (ix_tupK (K := K) rfl) (pv 4) pe_int (fun _ _ => rfl)) pe_str (nomark _)) (pss_one (ps_dput (hu_of hr) (pv 2) (pv 3) (pe_callBK (cr_minDK (K := K) rfl rfl hr.units) (by rfl) B.min_ (by decide +kernel) (pa_cons (pe_lc (own := [("part", 5)]) (by rfl) sc_marks_of.nd (pi_tupK (K := K) rfl (pe_dget (hu_of hr) (pv 1) (pv 3) (fun _ _ => rfl))) (blkOk_by (N := N_marks_of) (sc := defScope s_marks_of) (by decide +kernel)) (fun _ _ _ _ _ => (pg_name (i := 5) sc_marks_of.nd rfl (by first | exact Or.inl rfl | exact Or.inr rfl))) (fun _ _ _ _ _ => pts_nil) (fun _ _ _ _ _ => (pe_df D_mark_of hr (pa_cons (pv 5) pa_nil)))) pa_nil) (pk_cons (pe_gi B.END_meaning) pk_nil)) rfl))
    (pss_one (ps_dput (hu_of hr) (pv 2) (pv 3) (pe_callB (minK (K := K) rfl rfl) (by rfl) B.min_ (by decide +kernel) (pa_cons (pe_lc (own := [("other", 6)]) (by rfl) sc_marks_of.nd (pi_tupK (K := K) rfl (pe_df D_steps_ahead hr (pa_cons (pv 0) (pa_cons (pv 3) pa_nil)))) (blkOk_by (N := N_marks_of) (sc := defScope s_marks_of) (by decide +kernel)) (fun _ _ _ _ _ => (pg_name (i := 6) sc_marks_of.nd rfl (by first | exact Or.inl rfl | exact Or.inr rfl))) (fun _ _ _ _ _ => pts_nil) (fun _ _ _ _ _ => (pe_dget (hu_of hr) (pv 2) (pv 6) (fun _ _ => rfl)))) pa_nil)) rfl)))))
    (pss_one (ps_ret (pv 2)))))
      , ?_⟩
    walk_at "rd2"
    intro a ha
    have e0 : Sm T H _ := Sm.new (o := .dK []) ha
    have h0 : DKR IntR (upd H a (.dK [])) a [] := ⟨[], upd_same, .nil⟩
    generalize upd H a (.dK []) = H0 at e0 h0
    refine forT (T := T) q.steps stepK (fun Q' k' => ?_) (fun i σ' H' => (∃ z1 z2 z3 z4, σ' = [some v, some (.ref d), some (.ref a), z1, z2, z3, z4]) ∧ Sm T H H' ∧ DKR IntR H' a (q.units.take i)) (fun H' e => ⟨⟨_, _, _, _, rfl⟩, e0.trans e, ints_sm e h0⟩) (fun i x s σ' H' N hi ts tx p hN => ?_) fun σ' H' ts p => ?_
    · walk_at "rd2"
      exact sl_d (T := T) (es := q.steps.map stepK) (Tp.ts e0.ts _ _ hv) (by rfl) fun v' H' e t => k' v' H' e t
    · obtain ⟨⟨z1, z2, z3, z4, rfl⟩, e1, dk⟩ := p
      refine gT2 tx fun v1 v2 t1 t2 => ?_
      obtain rfl := t1.text_inv
      walk_at "rd2"
      have hil : i < 3 := (List.getElem?_eq_some_iff.mp hi).1
      have eu : q.units[i]? = some (s.1, ()) := by
        match i, hi with
        | 0, hi => obtain rfl := Option.some.inj hi; rfl
        | 1, hi => obtain rfl := Option.some.inj hi; rfl
        | 2, hi => obtain rfl := Option.some.inj hi; rfl
        | i + 3, hi => exact absurd (show (none : Option (Str × NestedKey)) = some s from hi) (by simp)
      have hn' : s.1 ∉ (q.units.take i).map (·.1) := by
        have nd : (q.units.map (·.1)).Nodup := q.nd
        intro hmem
        rw [List.map_take] at hmem
        obtain ⟨j, hj⟩ := List.mem_iff_getElem?.mp hmem
        have hji : j < i := by
          have := (List.getElem?_eq_some_iff.mp hj).1
          rw [List.length_take] at this
          omega
        rw [List.getElem?_take_of_lt hji] at hj
        have e1 : (q.units.map (·.1))[j]? = (q.units.map (·.1))[i]? := by rw [hj, List.getElem?_map, eu]; rfl
        have := (List.getElem?_inj (by show j < 3; omega) nd).mp e1
        omega
      have fin : ∀ (m : Int) H3 (z1 z2 z3 z4 : Option V), Sm T H' H3 → ∃ o, DPut H3 a (.str s.1) (.int m) (upd H3 a o) ∧ N [some v, some (.ref d), some (.ref a), z1, z2, z3, z4] (upd H3 a o) := fun m H3 z1 z2 z3 z4 e3 => by
        obtain ⟨o, g, dk4, mu⟩ := dk_put (v := .int m) (b := ()) (ints_sm e3 dk) hn' (by rw [List.length_take]; show min i 3 ≤ _; omega) (fun _ _ _ _ _ r => r) ⟨m, rfl⟩
        refine ⟨o, g, hN _ _ (e3.ts.trans (TS.mu mu)) ⟨⟨_, _, _, _, rfl⟩, (e1.trans e3).mut ha mu, ?_⟩⟩
        rw [List.take_add_one, eu]
        exact dk4
      have ints_map : ∀ {ys : List V} {us : List Unit} {H3 : Hp}, Paired (IntR H3) ys us → ∃ ns : List Int, ys = ns.map V.int ∧ ns.length = us.length := by
        intro ys us H3 h
        induction h with
        | nil => exact ⟨[], rfl, rfl⟩
        | cons r _ ih =>
          obtain ⟨i, rfl⟩ := r
          obtain ⟨ns, rfl, hl⟩ := ih
          exact ⟨i :: ns, rfl, by simp [hl]⟩
      have alt : (∃ (cs : List Col) (p' : List En), s.2 = srcStep cs ∧ p'.length ≤ 1000 ∧ ∃ vv, DGet H' d (.str s.1) (some vv) ∧ Tp H' vv (.tup [partK p'])) ∨ (i = 2 ∧ s = (("j" : Str), joinStep q)) := by
        match i, hi with
        | 0, hi => obtain rfl := Option.some.inj hi; exact .inl ⟨q.L, px, rfl, lx, Told.x (hd.sm e1)⟩
        | 1, hi => obtain rfl := Option.some.inj hi; exact .inl ⟨q.R, py, rfl, ly, Told.y (hd.sm e1)⟩
        | 2, hi => obtain rfl := Option.some.inj hi; exact .inr ⟨rfl, rfl⟩
        | i + 3, hi => exact absurd (show (none : Option (Str × NestedKey)) = some s from hi) (by simp)
      rcases alt with ⟨cs, p', es, lp, vv, gv, tv⟩ | ⟨rfl, rfl⟩
      · rw [es] at t2
        refine ix_d (i := 0) t2 rfl fun x t => ?_
        obtain rfl := t.text_inv
        walk_at "rd2"
        refine ⟨rfl, ?_⟩
        refine lcT (T := T) [p'] partK (fun _ => IntR) (fun _ => some ()) (fun Q' k' => ?_) (by show 1 ≤ 100000; decide) (fun _ _ _ _ _ _ h => h) (fun D j y p2 H3 ha1 e3 ty hD Qy Qn hy hnn => ?_) (fun D H3 ys e3 hD pr => ?_)
        · walk_at "rd2"
          exact ⟨d, rfl, vv, gv, k' vv _ (Sm.refl _ _) tv⟩
        · walk_at "rd2"
          have hp2 : p2 = p' := by
            have := List.mem_of_getElem? ha1
            exact List.mem_singleton.mp this
          subst hp2
          exact ⟨y, p2, rfl, ty, lp, fun m H4 e4 => hy _ () H4 rfl e4 ⟨m, rfl⟩⟩
        · obtain ⟨ns, rfl, hl⟩ := ints_map pr
          have hne : ns ≠ [] := fun z => by rw [z] at hl; cases hl
          refine ⟨D, ns, _, rfl, rfl, .inl (.inl hD), fun z => absurd z hne, fun m _ _ => ?_⟩
          obtain ⟨o, g, hN'⟩ := fin m H3 _ _ _ _ e3
          exact ⟨a, rfl, _, g, hN'⟩
      · refine ix_d (i := 0) t2 rfl fun x t => ?_
        obtain rfl := t.text_inv
        walk_at "rd2"
        refine ⟨rfl, ifF (by decide +kernel) ?_⟩
        refine lcT (T := T) (["x", "y"] : List Str) .text (fun _ => IntR) (fun _ => some ()) (fun Q' k' => ?_) (by decide) (fun _ _ _ _ _ _ h => h) (fun D j y n2 H3 ha1 e3 ty hD Qy Qn hy hnn => ?_) (fun D H3 ys e3 hD pr => ?_)
        · walk_at "rd2"
          exact ⟨v, q, "j", ["x", "y"], rfl, Tp.ts e1.ts _ _ hv, by simp [Qry.aheads], fun v' H3 e3 t3 => k' v' H3 e3 t3⟩
        · walk_at "rd2"
          obtain rfl := ty.text_inv
          have dk3 : DKR IntR H3 a [("x", ()), ("y", ())] := ints_sm e3 dk
          obtain ⟨vv, gv, rv⟩ := dk_got (n := n2) (b := ()) dk3 nd_xy (by
            have := List.mem_of_getElem? ha1
            rcases List.mem_cons.mp this with rfl | this
            · exact List.mem_cons_self
            · obtain rfl := List.mem_singleton.mp this
              exact List.mem_cons_of_mem _ List.mem_cons_self)
          exact ⟨a, rfl, vv, gv, hy vv () H3 rfl (Sm.refl _ _) rv⟩
        · obtain ⟨ns, rfl, hl⟩ := ints_map pr
          refine ⟨D, ns, rfl, .inl (.inl hD), by rw [hl]; decide, fun m _ _ => ?_⟩
          obtain ⟨o, g, hN'⟩ := fin m H3 _ _ _ _ e3
          exact ⟨a, rfl, _, g, hN'⟩
    · obtain ⟨⟨z1, z2, z3, z4, rfl⟩, e1, dk⟩ := p
      walk_at "rd2"
      exact k a H' e1 ha dk
abbrev N_cut : List Str := ["told", "places", "found", "name", "parts", "number", "part"]
theorem sc_cut : FnScope N_cut ["told", "places"] (defScope s_cut) := ⟨rfl, rfl, rfl, by decide +kernel, rfl, by decide +kernel, by decide +kernel⟩
theorem ok_cut (B : Bs mg) (hg : mg "cut" = some (.ref f)) (F : FnP K "cut" s_cut f fd) : Df P w K mg base "cut" 1 ["told", "places"] (sp_cut P w T) := by
  refine df_mk hg F sc_cut (fun vs H Q E h => ?_) (fun _ _ _ _ _ _ us hl => match us, hl with | [_, _], _ => rfl) (fun cdv A outer s H vs Q E hr h => ?_)
  · obtain ⟨_, _, _, _, _, _, rfl, _⟩ := h
    rfl
  · obtain ⟨d, e, px, py, nx, ny, rfl, hd, hp, k⟩ := h
    refine ⟨_,
      (pss_cons (ps_set (i := 2) sc_cut.nd rfl (by first | exact Or.inl rfl | exact Or.inr rfl) pe_dnewK)
    (pss_cons (ps_lock (ps_for PassesOwn.never rfl (pi_items (pv 0)) (pg_tupK (n := 2) (K := K) rfl rfl (pgs_cons (pg_name (i := 3) sc_cut.nd rfl (by first | exact Or.inl rfl | exact Or.inr rfl)) (pgs_cons (pg_name (i := 4) sc_cut.nd rfl (by first | exact Or.inl rfl | exact Or.inr rfl)) pgs_nil)))
    (pss_one (ps_dput (hu_of hr) (pv 2) (pv 3) (pe_callTy (tupOfK (K := K) rfl) (by rfl) B.tuple_ (by decide +kernel) (pa_cons (pe_lc (own := [("number", 5), ("part", 6)]) (by rfl) sc_cut.nd (pi_enumT (K := K) rfl (by rfl) B.enumerate_ (pa_cons (pv 4) pa_nil)) (blkOk_by (N := N_cut) (sc := defScope s_cut) (by decide +kernel)) (fun _ _ _ _ _ => (pg_tupK (n := 2) (K := K) rfl rfl (pgs_cons (pg_name (i := 5) sc_cut.nd rfl (by first | exact Or.inl rfl | exact Or.inr rfl)) (pgs_cons (pg_name (i := 6) sc_cut.nd rfl (by first | exact Or.inl rfl | exact Or.inr rfl)) pgs_nil)))) (fun _ _ _ _ _ => pts_nil) (fun _ _ _ _ _ => (pe_slice (sl_tupK (K := K) rfl) (pv 6) po_none (po_some (pe_nget (P := P) (w := w) rfl rfl (hu9 hr) (pv 1) (pe_tup (pa_cons (pv 3) (pa_cons (pv 5) pa_nil))) (fun _ _ => rfl)))))) pa_nil)) rfl))))
    (pss_one (ps_ret (pv 2)))))
      , ?_⟩
    walk_at "rd2"
    intro a ha
    obtain ⟨kvs, hkv, pr⟩ := hd
    have hda : d ≠ a := fun z => by rw [z, ha] at hkv; cases hkv
    refine ⟨d, _, (by rw [upd_ne hda]; exact hkv : (upd H a (.dK [])) d = some (.dK kvs)), True.intro, fun od => ?_⟩
    have ec : upd (upd H a (.dK [])) d (.frz od (.dK kvs)) = upd (upd H d (.frz od (.dK kvs))) a (.dK []) := by
      funext c
      by_cases h1 : c = a
      · subst h1; rw [upd_ne hda.symm, upd_same, upd_same]
      · by_cases h2 : c = d
        · subst h2; rw [upd_same, upd_ne h1, upd_same]
        · rw [upd_ne h2, upd_ne h1, upd_ne h1, upd_ne h2]
    rw [ec]
    have haL : (upd H d (.frz od (.dK kvs))) a = none := by rw [upd_ne hda.symm]; exact ha
    have hL : (upd H d (.frz od (.dK kvs))) d = some (.frz od (.dK kvs)) := upd_same
    have tsL : TS H (upd H d (.frz od (.dK kvs))) := lock_ts hkv
    have xbL : XBut d H (upd H d (.frz od (.dK kvs))) := XBut.upd (by rw [hkv]; exact mu_dK)
    have back : ∀ H', Sm T (upd H d (.frz od (.dK kvs))) H' → H' d = some (.frz od (.dK kvs)) → Sm T H (upd H' d (.dK kvs)) := fun H' e h => lock_sm hkv e h
    generalize upd H d (.frz od (.dK kvs)) = HL at haL hL tsL xbL back
    have e0 : Sm T HL _ := Sm.new (o := .dK []) haL
    have h0 : DKR PartV (upd HL a (.dK [])) a [] := ⟨[], upd_same, .nil⟩
    generalize upd HL a (.dK []) = H0 at e0 h0
    obtain ⟨es, dE, vx, vy⟩ := hp
    have hed : e ≠ d := fun z => by
      have := dE.at_
      rw [z, hkv] at this
      unfold DN at this
      cases this
    have dEL : DictE P w HL e es := dE.xb xbL hed
    let ps : List (Str × List En) := [("x", px.take nx), ("y", py.take ny)]
    refine forI (kvs := kvs) (o := od) (d := d) (fun Q' k' => ?_) (e0.1 _ _ hL (fun _ z => by cases z)) (fun i σ' H' => (∃ z1 z2 z3 z4, σ' = [some (.ref d), some (.ref e), some (.ref a), z1, z2, z3, z4]) ∧ Sm T HL H' ∧ DKR PartV H' a (ps.take i)) ⟨⟨_, _, _, _, rfl⟩, e0, h0⟩ (fun i σ' H' _ p => p.2.1.1 _ _ hL (fun _ z => by cases z)) (fun i q k1 v1 σ' H' N hi ts hq p hN => ?_) fun σ' H' ts p => ?_
    · walk_at "rd2"
      exact k'
    · obtain ⟨⟨z1, z2, z3, z4, rfl⟩, e1, dk⟩ := p
      refine gP upd_same ?_
      have e2 : Sm T H' (upd H' q (.tup [kV k1, v1])) := Sm.new hq
      generalize upd H' q (.tup [kV k1, v1]) = H2 at e2 hN
      obtain ⟨pp, hpp, ek, tv⟩ := Paired.at_ pr hi
      have ek : k1 = Sum.inr pp.1 := ek
      subst ek
      have tv2 : Tp H2 v1 (.tup [partK pp.2]) := Tp.ts ((tsL.trans e1.ts).trans e2.ts) _ _ tv
      obtain ⟨n, hps, hval⟩ : ∃ n : Nat, ps[i]? = some (pp.1, pp.2.take n) ∧ valV (kvsOf es) (.tup [.text pp.1, .num 0]) = some (.int (n : Int)) := by
        match i, hpp with
        | 0, hpp => obtain rfl := Option.some.inj hpp; exact ⟨nx, rfl, vx⟩
        | 1, hpp => obtain rfl := Option.some.inj hpp; exact ⟨ny, rfl, vy⟩
        | i + 2, hpp => exact absurd (show (none : Option (Str × List En)) = some pp from hpp) (by simp)
      walk_at "rd2"
      refine lcET (T := T) [partK pp.2] (fun _ => Tp) (fun _ d' => some (partK (pp.2.take n))) (fun Q' k' => ?_) (by show 1 ≤ 100000; decide) r_tp (fun D j q2 y d' H3 ha1 e3 ty hq2 hD Qy Qn hy hnn => ?_) (fun D H3 ys e3 hD pr3 => ?_)
      · walk_at "rd2"
        exact k' v1 _ (Sm.refl _ _) tv2
      · match j, ha1 with
        | 0, ha1 =>
          obtain rfl := Option.some.inj ha1
          refine gP hq2 ?_
          walk_at "rd2"
          intro q3 hq3
          have e4 : Sm T H3 (upd H3 q3 (.tup [kV (Sum.inr pp.1), .int ((0 : Nat) : Int)])) := Sm.new hq3
          have t4 : Tp (upd H3 q3 (.tup [kV (Sum.inr pp.1), .int ((0 : Nat) : Int)])) (.ref q3) (.tup [.text pp.1, .num 0]) := tup_new hq3 (.cons (.str _) (.cons (.int _) .nil))
          generalize upd H3 q3 (.tup [kV (Sum.inr pp.1), .int ((0 : Nat) : Int)]) = H4 at e4 t4
          have dE4 : DictE P w H4 e es := dEL.sm (((e1.trans e2).trans e3).trans e4)
          refine ⟨e, rfl, q3, rfl, es, dE4, _, t4, (by show 1 ≤ 8; decide), _, hval, _, rfl, ?_⟩
          refine sl_d (T := T) (es := (pp.2.take n).map En.k) (Tp.ts e4.ts _ _ ty) ?_ fun v5 H5 e5 t5 => hy v5 _ H5 rfl (e4.trans e5) t5
          show ((pp.2.map En.k).drop 0).take (min n (pp.2.map En.k).length - 0) = _
          rw [List.drop_zero, Nat.sub_zero, List.map_take, List.take_eq_take_iff]
          omega
        | j + 1, ha1 => exact absurd ha1 (by simp)
      · refine tuple_d (T := T) hD (Tps.of pr3) fun v4 H4 e4 t4 => ?_
        have e34 := e3.trans e4
        have dk4 : DKR PartV H4 a (ps.take i) := DKR.sm (fun _ _ r => Tp.ts (e2.trans e34).ts _ _ r) (e2.trans e34) dk
        have hn' : pp.1 ∉ (ps.take i).map (·.1) := by
          match i, hpp with
          | 0, _ => exact fun z => by cases z
          | 1, hpp =>
            obtain rfl := Option.some.inj hpp
            show ("y" : Str) ∉ (["x"] : List Str)
            decide +kernel
          | i + 2, hpp => exact absurd (show (none : Option (Str × List En)) = some pp from hpp) (by simp)
        obtain ⟨o, g, dk5, mu⟩ := dk_put (v := v4) (b := pp.2.take n) dk4 hn' (by rw [List.length_take]; show min i 2 ≤ _; omega) (fun _ _ _ _ xb r => Tp.ts xb.1 _ _ r) t4
        refine ⟨a, rfl, _, g, hN _ _ (e34.ts.trans (TS.mu mu)) ⟨⟨_, _, _, _, rfl⟩, ((e1.trans e2).trans e34).mut haL mu, ?_⟩⟩
        rw [List.take_add_one, hps]
        exact dk5
    · obtain ⟨⟨z1, z2, z3, z4, rfl⟩, e1, dk⟩ := p
      walk_at "rd2"
      have hd' : H' d = some (.frz od (.dK kvs)) := e1.1 _ _ hL (fun _ z => by cases z)
      refine ⟨hd', k a _ (back H' e1 hd') ha ?_⟩
      have hk2 : kvs.length = 2 := Paired.length pr
      rw [hk2] at dk
      have dk : DKR PartV H' a ps := dk
      obtain ⟨kv2, h1, h2⟩ := dk
      exact ⟨kv2, by rw [upd_ne hda.symm]; exact h1, Paired.mapP h2 fun _ _ r => ⟨r.1, Tp.ts (unlock_ts hd') _ _ r.2⟩⟩
end K67
end
/-! ## K67M6 -/
section
set_option maxHeartbeats 4000000
/-! K67M6: rows by their keys -/
namespace K67
open PySem PySem.Spec PyProof.Rows L2 LamX
local macro_rules | `(tactic| walk_at "sm") => `(tactic| first | assumption | exact Sm.refl _ _ | (refine Sm.trans ?_ (by assumption); walk_at "sm"))
local macro_rules | `(tactic| walk_at "ts") => `(tactic| first | assumption | exact TS.refl _ | (refine TS.trans ?_ (by assumption); walk_at "ts") | (refine TS.trans ?_ (Sm.ts (by assumption)); walk_at "ts"))
local macro_rules | `(tactic| walk_at "tp") => `(tactic| first | assumption | exact Tp.int _ | exact Tp.str _ | exact Tp.non | (refine Tp.ts (H := ?_) ?_ _ _ (by assumption); walk_at "ts"))
local macro_rules | `(tactic| walk_at "tps") => `(tactic| first | assumption | exact Tps.nil | (refine Tps.cons ?_ ?_; · walk_at "tp"; · walk_at "tps") | (refine Tps.ts (H := ?_) ?_ _ _ (by assumption); walk_at "ts"))
local macro_rules | `(tactic| walk_at "rd") => `(tactic| try simp only [rMax2, and_assoc, tYes, tSeq, tIfS, tRet, tNext, tTest, tB, tOp, tUn, tVar, tC, tTup, tLst, tCons, tNil, tIf, tCB, tCall, tBM, tBM0, tAsg, gName, gCons, gNil, gSub, tDrop, tPar, tPar3, tAug, tAnd, tOr, tNot, tAndV, tOrV, tNotV, tChain, tSl, tPart, tNoPart, rI0, rI, rU, rEq, rNe, L2.start, wipe, sz0, sz1, sz2, sz3, sz4, sz5, sz6, List.map_cons, List.map_nil, List.length_cons, List.length_nil, List.cons_append, List.nil_append, List.append_nil, List.getElem?_cons_zero, List.getElem?_cons_succ, List.set_cons_zero, List.set_cons_succ, List.replicate_zero, List.replicate_succ, Option.some.injEq, V.bl.injEq, V.int.injEq, V.str.injEq, List.cons.injEq, and_true, true_and, exists_eq_left', exists_eq_left, exists_eq', exists_eq, exists_and_left, Nat.reduceSub, Nat.reduceAdd, Nat.reduceLeDiff, decide_true, decide_false, if_true, if_false, Bool.false_eq_true, reduceIte])
local macro_rules | `(tactic| walk_at "rd2") => `(tactic| try simp only [tDGet, sDPut, tDNewK, tNNew, tNGet2, tNSetd, tNGet, sNPut, tTupF, tCKw, tDead, sDead, tDispN, tPairs, StX.tStar, rNeDN, rNeDN2, rMax2, and_assoc, tYes, tSeq, tIfS, tRet, tNext, tTest, tB, tOp, tUn, tVar, tC, tTup, tLst, tCons, tNil, tIf, tCB, tCall, tBM, tBM0, tAsg, gName, gCons, gNil, gSub, tDrop, tPar, tPar3, tAug, tAnd, tOr, tNot, tAndV, tOrV, tNotV, tChain, tSl, tPart, tNoPart, rI0, rI, rU, rEq, rNe, L2.start, wipe, sz0, sz1, sz2, sz3, sz4, sz5, sz6, List.map_cons, List.map_nil, List.length_cons, List.length_nil, List.cons_append, List.nil_append, List.append_nil, List.getElem?_cons_zero, List.getElem?_cons_succ, List.set_cons_zero, List.set_cons_succ, List.replicate_zero, List.replicate_succ, Option.some.injEq, V.bl.injEq, V.int.injEq, V.str.injEq, List.cons.injEq, and_true, true_and, exists_eq_left', exists_eq_left, exists_eq', exists_eq, exists_and_left, Nat.reduceSub, Nat.reduceAdd, Nat.reduceLeDiff, decide_true, decide_false, if_true, if_false, Bool.false_eq_true, reduceIte])

/-- nothing but a table may stand at l -/
def Fresh (H : Hp) (l : Addr) : Prop := ∀ o, H l = some o → ∃ ps, o = .tbl ps
theorem fresh_of {T : List (Addr × Str)} {H H' : Hp} {l : Addr} (e : Sm T H H') (h : H' l = none) : Fresh H l := fun o ho => by
  by_cases q : ∃ ps, o = HO.tbl ps
  · exact q
  · have := e.1 l o ho (fun ps z => q ⟨ps, z⟩)
    rw [h] at this
    cases this
theorem Sm.mutF {T : List (Addr × Str)} {H H' : Hp} {p : Addr} {o : HO} (e : Sm T H H') (h : Fresh H p) (hm : Mu (H' p)) : Sm T H (upd H' p o) :=
  ⟨fun b u q n => by
    have hb : b ≠ p := by
      rintro rfl
      obtain ⟨ps, rfl⟩ := h u q
      exact n ps rfl
    rw [upd_ne hb]
    exact e.1 b u q n, fun t => tabs_upd hm (e.2 t)⟩
abbrev RL := Row × NestedKey
def rlK (p : RL) : NestedKey := .tup [p.1.k, p.2]
def grp (key : RL → NestedKey) (rows : List RL) (k : NestedKey) : List RL := rows.filter fun r => decide (key r = k)
def Look (H0 H : Hp) (d : Addr) (es : List Ent) (key : RL → NestedKey) (rows : List RL) (k : NestedKey) : Prop :=
  (grp key rows k = [] ∧ valV (kvsOf es) k = none) ∨ ∃ l xs, valV (kvsOf es) k = some (.ref l) ∧ l ≠ d ∧ Fresh H0 l ∧ H l = some (.lst xs) ∧ Tps H xs ((grp key rows k).map rlK)
structure GD (P : Program) (w : World) (H0 H : Hp) (d : Addr) (key : RL → NestedKey) (rows : List RL) (es : List Ent) : Prop where
  dict : DictE P w H d es
  look : ∀ k, Look H0 H d es key rows k
  inj : ∀ k k' l, valV (kvsOf es) k = some (.ref l) → valV (kvsOf es) k' = some (.ref l) → k = k'
theorem GD.sm {P : Program} {w : World} {T : List (Addr × Str)} {H0 H H' : Hp} {d : Addr} {key : RL → NestedKey} {rows : List RL} {es : List Ent} (e : Sm T H H') (g : GD P w H0 H d key rows es) : GD P w H0 H' d key rows es :=
  ⟨g.dict.sm e, fun k => (g.look k).imp id fun ⟨l, xs, h1, h2, h3, h4, h5⟩ => ⟨l, xs, h1, h2, h3, e.lst h4, Tps.ts e.ts _ _ h5⟩, g.inj⟩
theorem grp_snoc (key : RL → NestedKey) (rows : List RL) (r : RL) (k : NestedKey) : grp key (rows ++ [r]) k = grp key rows k ++ (if key r = k then [r] else []) := by
  unfold grp
  rw [List.filter_append]
  by_cases h : key r = k
  · simp [h]
  · simp [h]
def keyAt (ps : List Nat) (p : RL) : NestedKey := .tup (pickK ps p.1.vs)
section
variable (P : Program) (w : World) (T : List (Addr × Str))
def sp_by_keys : Sp := fun vs H Q _ => ∃ (vc vk : V) (a : Addr) (cs : List Col) (ks : List Str) (xs : List V) (rows : List RL), vs = [vc, vk, .ref a] ∧ Tp H vc (colsK cs) ∧ Tp H vk (.tup (txts ks)) ∧ H a = some (.lst xs) ∧ Tps H xs (rows.map rlK) ∧
  cs.length ≤ 100 ∧ ks.length ≤ 100 ∧ (∀ n ∈ ks, n ∈ colNames cs) ∧ (∀ p ∈ rows, p.1.ok ∧ p.1.vs.length = cs.length) ∧ rows.length ≤ 1000 ∧
  ∀ d H' es, Sm T H H' → H d = none → GD P w H H' d (keyAt (ks.map (plc (colNames cs)))) rows es → Q (.ref d) H'
end
variable {P : Program} {w : World} {K : PySem.W.Frag} {mg : Str → Option Value} {base : Heap} {T : List (Addr × Str)} {f : Addr} {fd : FuncData}
abbrev N_by_keys : List Str := ["columns", "keys", "given_rows", "found", "row", "lot"]
theorem sc_by_keys : FnScope N_by_keys ["columns", "keys", "given_rows"] (defScope s_by_keys) := ⟨rfl, rfl, rfl, by decide +kernel, rfl, by decide +kernel, by decide +kernel⟩
theorem ok_by_keys (B : Bs mg) (D_worths_of : Df P w K mg base "worths_of" 1 ["columns", "names", "values"] (sp_worths T)) (hg : mg "by_keys" = some (.ref f)) (F : FnP K "by_keys" s_by_keys f fd) : Df P w K mg base "by_keys" 2 ["columns", "keys", "given_rows"] (sp_by_keys P w T) := by
  refine df_mk hg F sc_by_keys (fun vs H Q E h => ?_) (fun _ _ _ _ _ _ us hl => match us, hl with | [_, _, _], _ => rfl) (fun cdv A outer s H vs Q E hr h => ?_)
  · obtain ⟨_, _, _, _, _, _, _, rfl, _⟩ := h
    rfl
  · obtain ⟨vc, vk, a, cs, ks, xs, rows, rfl, hc, hk, ha, hxs, lc, lk, hm, hrow, lr, k⟩ := h
    refine ⟨_,
      (pss_cons (ps_set (i := 3) sc_by_keys.nd rfl (by first | exact Or.inl rfl | exact Or.inr rfl) (pe_nnew (P := P) (w := w) rfl rfl))
    (pss_cons (ps_for PassesOwn.never rfl (pi_listK (K := K) rfl (pv 2)) (pg_tupK (n := 2) (K := K) rfl rfl (pgs_cons (pg_name (i := 4) sc_by_keys.nd rfl (by first | exact Or.inl rfl | exact Or.inr rfl)) (pgs_cons (pg_name (i := 5) sc_by_keys.nd rfl (by first | exact Or.inl rfl | exact Or.inr rfl)) pgs_nil)))
    (pss_one (ps_expr (pe_bmK (K := K) rfl PySem.F.plainAttrs_list PySem.F.slot_list_append PySem.F.type_list_append mt_append (pe_nsetd (P := P) (w := w) rfl rfl (hu9 hr) (pv 3) (pe_df D_worths_of hr (pa_cons (pv 0) (pa_cons (pv 1) (pa_cons (pe_ix (ix_tupK (K := K) rfl) (pv 4) pe_int (fun _ _ => rfl)) pa_nil)))) (pe_lst pa_nil) ⟨by rfl, by rfl, by rfl, by rfl⟩) (pa_cons (pe_tup (pa_cons (pv 4) (pa_cons (pv 5) pa_nil))) pa_nil)))))
    (pss_one (ps_ret (pv 3)))))
      , ?_⟩
    walk_at "rd2"
    intro d hd
    have e0 : Sm T H _ := Sm.new (o := DN P w d []) hd
    have h0 : GD P w H (upd H d (DN P w d [])) d (keyAt (ks.map (plc (colNames cs)))) [] [] := ⟨dn_new, fun k => .inl ⟨rfl, rfl⟩, fun _ _ _ h => by cases h⟩
    generalize upd H d (DN P w d []) = H0 at e0 h0
    generalize hkey : keyAt (ks.map (plc (colNames cs))) = key at k h0
    refine forL (fun H v (p : RL) => Tp H v (rlK p)) rows (fun Q' k' => ?_) (e0.lst ha) (tps_pr (Tps.ts e0.ts _ _ hxs)) (fun i σ' H' => (∃ z1 z2, σ' = [some vc, some vk, some (.ref a), some (.ref d), z1, z2]) ∧ Sm T H H' ∧ ∃ es : List Ent, es.length ≤ i ∧ GD P w H H' d key (rows.take i) es) ⟨⟨_, _, rfl⟩, e0, [], Nat.le_refl _, h0⟩ (fun i σ' H' _ p => p.2.1.lst ha) (fun H' v b ts t => Tp.ts ts _ _ t) (fun i x p σ' H' N hi ts tx pv hN => ?_) fun σ' H' ts pv => ?_
    · walk_at "rd2"
      exact k'
    · obtain ⟨⟨z1, z2, rfl⟩, e1, es, hlen, g⟩ := pv
      obtain ⟨hok, hvl⟩ := hrow p (List.mem_of_getElem? hi)
      refine gT2 tx fun v1 v2 t1 t2 => ?_
      walk_at "rd2"
      refine ⟨d, rfl, ⟨es, g.dict⟩, ?_⟩
      refine ix_d (i := 2) t1 rfl fun x t => ?_
      refine ⟨vc, vk, x, cs, ks, p.1.vs, rfl, Tp.ts e1.ts _ _ hc, .inl (Tp.ts e1.ts _ _ hk), t, lc, lk, hm, hvl, fun v3 H3 e3 t3 => ?_⟩
      walk_at "rd2"
      intro l hl
      have e4 : Sm T H3 (upd H3 l (.lst [])) := Sm.new hl
      have hl4 : (upd H3 l (.lst [])) l = some (.lst []) := upd_same
      generalize upd H3 l (.lst []) = H4 at e4 hl4
      have g4 := (g.sm e3).sm e4
      have t34 := Tp.ts e4.ts _ _ t3
      obtain ⟨b, ys, rfl, _, _⟩ := t3.tup_inv
      have hkp : key p = .tup (pickK (ks.map (plc (colNames cs))) p.1.vs) := by rw [← hkey]; rfl
      rw [← hkp] at t34
      have e14 := (e1.trans e3).trans e4
      have dp : (key p).depth ≤ 8 := by
        rw [hkp]
        show NestedKey.depthAll _ + 1 ≤ 8
        rw [depth_atoms (pick_atoms hok.1)]
        decide
      have hil : i < rows.length := (List.getElem?_eq_some_iff.mp hi).1
      have hld : l ≠ d := fun z => by rw [z, (g.sm e3).dict.at_] at hl; cases hl
      have hHl : Fresh H l := fresh_of (e1.trans e3) hl
      -- the list of the key at hand takes the pair
      have app : ∀ (H5 : Hp) (es' : List Ent) (l' : Addr) (xs' : List V), Sm T H H5 → TS H4 H5 → es'.length ≤ i + 1 → GD P w H H5 d key (rows.take i) es' → valV (kvsOf es') (key p) = some (.ref l') → l' ≠ d → Fresh H l' → H5 l' = some (.lst xs') → Tps H5 xs' ((grp key (rows.take i) (key p)).map rlK) →
          tyV K "list" (.ref l') H5 ∧ ∀ q, H5 q = none → rAppend (.ref l') [V.ref q] (upd H5 q (.tup [v1, v2])) fun x H1 => N [some vc, some vk, some (V.ref a), some (V.ref d), some v1, some v2] H1 := by
        intro H5 es' l' xs' e5 ts5 hlen' g5 hv hld' hHl' hl5 tx5
        refine ⟨tyl hl5, fun q hq => ?_⟩
        have e6 : Sm T H5 (upd H5 q (.tup [v1, v2])) := Sm.new hq
        have t6 : Tp (upd H5 q (.tup [v1, v2])) (.ref q) (rlK p) := tup_new hq (.cons (Tp.ts ((e3.trans e4).ts.trans ts5) _ _ t1) (.cons (Tp.ts ((e3.trans e4).ts.trans ts5) _ _ t2) .nil))
        generalize upd H5 q (.tup [v1, v2]) = H6 at e6 t6
        have g6 := g5.sm e6
        have hl6 := e6.lst hl5
        have hz : xs'.length ≤ 1000 := by
          rw [tx5.length, List.length_map]
          have := List.length_filter_le (fun r => decide (key r = key p)) (rows.take i)
          have h2 := List.length_take_le i rows
          unfold grp
          omega
        refine ⟨l', xs', _, rfl, rfl, hl6, sz_lt' (by omega), ?_⟩
        have mu : Mu (H6 l') := by rw [hl6]; exact mu_lst
        have ts7 : TS H6 (upd H6 l' (.lst (xs' ++ [V.ref q]))) := TS.mu mu
        have xb : XBut l' H6 (upd H6 l' (.lst (xs' ++ [V.ref q]))) := XBut.upd mu
        refine hN _ _ ((((e3.trans e4).ts.trans ts5).trans e6.ts).trans ts7) ⟨⟨_, _, rfl⟩, (e5.trans e6).mutF hHl' mu, es', hlen', ?_⟩
        rw [List.take_add_one, hi]
        refine ⟨g6.dict.xb xb hld'.symm, fun k2 => ?_, g6.inj⟩
        show Look H _ d es' key (rows.take i ++ [p]) k2
        unfold Look
        rw [grp_snoc]
        by_cases hk2 : key p = k2
        · subst hk2
          rw [if_pos rfl]
          refine .inr ⟨l', _, hv, hld', hHl', upd_same, ?_⟩
          rw [List.map_append]
          exact (Tps.ts (e6.ts.trans ts7) _ _ tx5).append (.cons (Tp.ts ts7 _ _ t6) .nil)
        · rw [if_neg hk2, List.append_nil]
          rcases g6.look k2 with h | ⟨l2, xs2, h1, h2, h3, h4, h5⟩
          · exact .inl h
          · have hne : l2 ≠ l' := fun z => hk2 (g6.inj _ _ l' hv (z ▸ h1))
            exact .inr ⟨l2, xs2, h1, h2, h3, by rw [upd_ne hne]; exact h4, Tps.ts ts7 _ _ h5⟩
      refine ⟨es, g4.dict, b, rfl, key p, t34, dp, sz_lt' (by omega), fun v hv => ?_, fun hv => ?_⟩
      · rcases g4.look (key p) with ⟨_, h⟩ | ⟨l2, xs2, h1, h2, h3, h4, h5⟩
        · rw [h] at hv; cases hv
        · rw [h1] at hv
          obtain rfl := Option.some.inj hv
          exact app H4 es l2 xs2 e14 (TS.refl _) (by omega) g4 h1 h2 h3 h4 h5
      · have hgr : grp key (rows.take i) (key p) = [] := by
          rcases g4.look (key p) with ⟨h, _⟩ | ⟨l2, xs2, h1, _⟩
          · exact h
          · rw [h1] at hv; cases hv
        have mu := g4.dict.mu
        have ts5 : TS H4 (upd H4 d (DN P w d (storeE es (key p) b (V.ref l)))) := TS.mu mu
        have ev : ∀ k2, valV (kvsOf (storeE es (key p) b (V.ref l))) k2 = if key p = k2 then some (V.ref l) else valV (kvsOf es) k2 := fun k2 => by
          rw [storeE_kvs, valV_put]
          by_cases h : key p = k2
          · rw [if_pos h.symm, if_pos h]
          · rw [if_neg (fun z => h z.symm), if_neg h]
        refine app _ (storeE es (key p) b (.ref l)) l [] (e14.mut hd mu) ts5 (by have := storeE_len es (key p) b (V.ref l); omega) ⟨DictE.put g4.dict t34 dp, fun k2 => ?_, fun k1 k2 l1 h1 h2 => ?_⟩ (by rw [ev, if_pos rfl]) hld hHl (by rw [upd_ne hld]; exact hl4) (by rw [hgr]; exact .nil)
        · show Look H _ d _ key _ k2
          unfold Look
          rw [ev]
          by_cases hk2 : key p = k2
          · subst hk2
            rw [if_pos rfl, hgr]
            exact .inr ⟨l, [], rfl, hld, hHl, by rw [upd_ne hld]; exact hl4, .nil⟩
          · rw [if_neg hk2]
            rcases g4.look k2 with h | ⟨l2, xs2, h1, h2, h3, h4, h5⟩
            · exact .inl h
            · exact .inr ⟨l2, xs2, h1, h2, h3, by rw [upd_ne h2]; exact h4, Tps.ts ts5 _ _ h5⟩
        · have old : ∀ k2, valV (kvsOf es) k2 ≠ some (V.ref l) := fun k2 z => by
            rcases g.look k2 with ⟨_, h⟩ | ⟨l2, xs2, h1, _, _, h4, _⟩
            · rw [h] at z; cases z
            · rw [h1] at z
              cases z
              have := e3.lst h4
              rw [this] at hl
              cases hl
          rw [ev] at h1 h2
          by_cases q1 : key p = k1
          · by_cases q2 : key p = k2
            · exact q1.symm.trans q2
            · rw [if_pos q1] at h1
              rw [if_neg q2] at h2
              cases h1
              exact absurd h2 (old k2)
          · by_cases q2 : key p = k2
            · rw [if_neg q1] at h1
              rw [if_pos q2] at h2
              cases h2
              exact absurd h1 (old k1)
            · rw [if_neg q1] at h1
              rw [if_neg q2] at h2
              exact g4.inj k1 k2 l1 h1 h2
    · obtain ⟨⟨z1, z2, rfl⟩, e1, es, _, g⟩ := pv
      walk_at "rd2"
      rw [List.take_length] at g
      exact k d H' es e1 hd g
end K67
end
/-! ## K67M7 -/
section
set_option maxHeartbeats 4000000
/-! K67M7: the pairs that meet -/
namespace K67
open PySem PySem.Spec PyProof.Rows L2 LamX
local macro_rules | `(tactic| walk_at "sm") => `(tactic| first | assumption | exact Sm.refl _ _ | (refine Sm.trans ?_ (by assumption); walk_at "sm"))
local macro_rules | `(tactic| walk_at "ts") => `(tactic| first | assumption | exact TS.refl _ | (refine TS.trans ?_ (by assumption); walk_at "ts") | (refine TS.trans ?_ (Sm.ts (by assumption)); walk_at "ts"))
local macro_rules | `(tactic| walk_at "tp") => `(tactic| first | assumption | exact Tp.int _ | exact Tp.str _ | exact Tp.non | (refine Tp.ts (H := ?_) ?_ _ _ (by assumption); walk_at "ts"))
local macro_rules | `(tactic| walk_at "tps") => `(tactic| first | assumption | exact Tps.nil | (refine Tps.cons ?_ ?_; · walk_at "tp"; · walk_at "tps") | (refine Tps.ts (H := ?_) ?_ _ _ (by assumption); walk_at "ts"))
local macro_rules | `(tactic| walk_at "rd") => `(tactic| try simp only [rMax2, and_assoc, tYes, tSeq, tIfS, tRet, tNext, tTest, tB, tOp, tUn, tVar, tC, tTup, tLst, tCons, tNil, tIf, tCB, tCall, tBM, tBM0, tAsg, gName, gCons, gNil, gSub, tDrop, tPar, tPar3, tAug, tAnd, tOr, tNot, tAndV, tOrV, tNotV, tChain, tSl, tPart, tNoPart, rI0, rI, rU, rEq, rNe, L2.start, wipe, sz0, sz1, sz2, sz3, sz4, sz5, sz6, List.map_cons, List.map_nil, List.length_cons, List.length_nil, List.cons_append, List.nil_append, List.append_nil, List.getElem?_cons_zero, List.getElem?_cons_succ, List.set_cons_zero, List.set_cons_succ, List.replicate_zero, List.replicate_succ, Option.some.injEq, V.bl.injEq, V.int.injEq, V.str.injEq, List.cons.injEq, and_true, true_and, exists_eq_left', exists_eq_left, exists_eq', exists_eq, exists_and_left, Nat.reduceSub, Nat.reduceAdd, Nat.reduceLeDiff, decide_true, decide_false, if_true, if_false, Bool.false_eq_true, reduceIte])
local macro_rules | `(tactic| walk_at "rd2") => `(tactic| try simp only [tDGet, sDPut, tDNewK, tNNew, tNGet2, tNSetd, tNGet, sNPut, tTupF, tCKw, tDead, sDead, tDispN, tPairs, StX.tStar, rNeDN, rNeDN2, rMax2, and_assoc, tYes, tSeq, tIfS, tRet, tNext, tTest, tB, tOp, tUn, tVar, tC, tTup, tLst, tCons, tNil, tIf, tCB, tCall, tBM, tBM0, tAsg, gName, gCons, gNil, gSub, tDrop, tPar, tPar3, tAug, tAnd, tOr, tNot, tAndV, tOrV, tNotV, tChain, tSl, tPart, tNoPart, rI0, rI, rU, rEq, rNe, L2.start, wipe, sz0, sz1, sz2, sz3, sz4, sz5, sz6, List.map_cons, List.map_nil, List.length_cons, List.length_nil, List.cons_append, List.nil_append, List.append_nil, List.getElem?_cons_zero, List.getElem?_cons_succ, List.set_cons_zero, List.set_cons_succ, List.replicate_zero, List.replicate_succ, Option.some.injEq, V.bl.injEq, V.int.injEq, V.str.injEq, List.cons.injEq, and_true, true_and, exists_eq_left', exists_eq_left, exists_eq', exists_eq, exists_and_left, Nat.reduceSub, Nat.reduceAdd, Nat.reduceLeDiff, decide_true, decide_false, if_true, if_false, Bool.false_eq_true, reduceIte])

abbrev SR := Row × Nat
def srK (n : Str) (p : SR) : NestedKey := .tup [p.1.k, .tup [.tup (plD n p.2)]]
def restN (q : Qry) : List Str := (colNames q.R).filter fun n => decide (n ∉ q.keys)
def qJn (q : Qry) : Jn := ⟨q.keys.map (plc (colNames q.L)), q.keys.map (plc (colNames q.R)), (restN q).map (plc (colNames q.R)), q.back, q.ahead⟩
abbrev PRw := Row × Nat × Nat
def prK (p : PRw) : NestedKey := .tup [p.1.k, .tup [.tup (plD "x" p.2.1), .tup (plD "y" p.2.2)]]
def mates (j : Jn) (rs : List SR) (a : SR) : List PRw := (rs.filter fun b => meetB j a.1 b.1).map fun b => (pairR j a.1 b.1, a.2, b.2)
def prs (j : Jn) (ls rs : List SR) : List PRw := ls.flatMap (mates j rs)
theorem bF {b : Bool} (h : ¬ b = true) : b = false := by cases b <;> simp_all
theorem mates_len (j : Jn) (rs : List SR) (a : SR) : (mates j rs a).length ≤ rs.length := by unfold mates; rw [List.length_map]; exact List.length_filter_le _ _
theorem prs_len (j : Jn) (ls rs : List SR) : (prs j ls rs).length ≤ ls.length * rs.length := by
  induction ls with
  | nil => exact Nat.zero_le _
  | cons a ls ih =>
    have h1 := mates_len j rs a
    show (mates j rs a ++ prs j ls rs).length ≤ _
    rw [List.length_append, List.length_cons, Nat.succ_mul]
    omega
structure QRows (q : Qry) (ls rs : List SR) : Prop where
  qo : q.ok
  kl : ∀ n ∈ q.keys, n ∈ colNames q.L
  kr : ∀ n ∈ q.keys, n ∈ colNames q.R
  l : ∀ p ∈ ls, p.1.ok ∧ p.1.vs.length = q.L.length
  r : ∀ p ∈ rs, p.1.ok ∧ p.1.vs.length = q.R.length
  ll : ls.length ≤ 20
  lr : rs.length ≤ 20
def toRL (n : Str) (p : SR) : RL := (p.1, .tup [.tup (plD n p.2)])
theorem toRL_k (n : Str) (ps : List SR) : (ps.map (toRL n)).map rlK = ps.map (srK n) := by rw [List.map_map]; rfl
section
variable (P : Program) (w : World) (T : List (Addr × Str))
def sp_pairs_of : Sp := fun vs H Q _ => ∃ (vl vr vs' : V) (a b : Addr) (q : Qry) (ls rs : List SR) (xs ys : List V), vs = [vl, vr, vs', .ref a, .ref b] ∧ Tp H vl (colsK q.L) ∧ Tp H vr (colsK q.R) ∧ Tp H vs' (joinStep q) ∧ H a = some (.lst xs) ∧ Tps H xs (ls.map (srK "x")) ∧ H b = some (.lst ys) ∧ Tps H ys (rs.map (srK "y")) ∧ QRows q ls rs ∧
  ∀ c zs H', Sm T H H' → H' c = some (.lst zs) → Tps H' zs ((prs (qJn q) ls rs).map prK) → Q (.ref c) H'
end
variable {P : Program} {w : World} {K : PySem.W.Frag} {mg : Str → Option Value} {base : Heap} {T : List (Addr × Str)} {f : Addr} {fd : FuncData}
abbrev N_pairs_of : List Str := ["left_columns", "right_columns", "step", "lefts", "rights", "keys", "back", "ahead", "rest", "others", "found", "lot", "time", "sign", "values", "mates", "other_lot", "other_time", "other_sign", "other", "told", "name", "kind"]
theorem sc_pairs_of : FnScope N_pairs_of ["left_columns", "right_columns", "step", "lefts", "rights"] (defScope s_pairs_of) := ⟨rfl, rfl, rfl, by decide +kernel, rfl, by decide +kernel, by decide +kernel⟩
theorem ok_pairs_of (B : Bs mg) (D_by_keys : Df P w K mg base "by_keys" 2 ["columns", "keys", "given_rows"] (sp_by_keys P w T)) (D_worths_of : Df P w K mg base "worths_of" 1 ["columns", "names", "values"] (sp_worths T)) (D_together : Df P w K mg base "together" 1 ["lots"] (sp_together T)) (hg : mg "pairs_of" = some (.ref f)) (F : FnP K "pairs_of" s_pairs_of f fd) : Df P w K mg base "pairs_of" 3 ["left_columns", "right_columns", "step", "lefts", "rights"] (sp_pairs_of T) := by
  refine df_mk hg F sc_pairs_of (fun vs H Q E h => ?_) (fun _ _ _ _ _ _ us hl => match us, hl with | [_, _, _, _, _], _ => rfl) (fun cdv A outer s H vs Q E hr h => ?_)
  · obtain ⟨_, _, _, _, _, _, _, _, _, _, rfl, _⟩ := h
    rfl
  · obtain ⟨vl, vr, vs', a, b, q, ls, rs, xs, ys, rfl, hl, hr', hst, ha, hxs, hb, hys, ok, k⟩ := h
    refine ⟨_,
      (pss_cons (ps_asg (pe_slice (sl_tupK (K := K) rfl) (pv 2) (po_some pe_int) po_none) (pg_tupK (n := 3) (K := K) rfl rfl (pgs_cons (pg_name (i := 5) sc_pairs_of.nd rfl (by first | exact Or.inl rfl | exact Or.inr rfl)) (pgs_cons (pg_name (i := 6) sc_pairs_of.nd rfl (by first | exact Or.inl rfl | exact Or.inr rfl)) (pgs_cons (pg_name (i := 7) sc_pairs_of.nd rfl (by first | exact Or.inl rfl | exact Or.inr rfl)) pgs_nil)))))
    (pss_cons (ps_setLc (i := 8) (own := [("name", 21), ("kind", 22)]) (by rfl) sc_pairs_of.nd rfl rfl (sw_true rfl rfl rfl (by decide +kernel)) (pi_tupK (K := K) rfl (pv 1)) (blkOk_by (N := N_pairs_of) (sc := defScope s_pairs_of) (by decide +kernel)) (fun _ _ _ _ _ => (pg_tupK (n := 2) (K := K) rfl rfl (pgs_cons (pg_name (i := 21) sc_pairs_of.nd rfl (by first | exact Or.inl rfl | exact Or.inr rfl)) (pgs_cons (pg_name (i := 22) sc_pairs_of.nd rfl (by first | exact Or.inl rfl | exact Or.inr rfl)) pgs_nil)))) (fun _ _ _ _ _ => (pts_one (pt_cmpR (op_notInK (K := K) rfl) (pv 21) (pv 5) (by with_unfolding_all rfl)))) (fun _ _ _ _ _ => (pv 21)))
    (pss_cons (ps_par (i := 9) (j := 10) (by rfl) sc_pairs_of.nd rfl rfl (by decide) rfl rfl (pa_cons (pe_df D_by_keys hr (pa_cons (pv 1) (pa_cons (pv 5) (pa_cons (pv 4) pa_nil)))) (pa_cons (pe_lst pa_nil) pa_nil)) (by rfl))
    (pss_cons (ps_for PassesOwn.never rfl (pi_listK (K := K) rfl (pv 3)) (pg_tupK (n := 2) (K := K) rfl rfl (pgs_cons (pg_tupK (n := 3) (K := K) rfl rfl (pgs_cons (pg_name (i := 12) sc_pairs_of.nd rfl (by first | exact Or.inl rfl | exact Or.inr rfl)) (pgs_cons (pg_name (i := 13) sc_pairs_of.nd rfl (by first | exact Or.inl rfl | exact Or.inr rfl)) (pgs_cons (pg_name (i := 14) sc_pairs_of.nd rfl (by first | exact Or.inl rfl | exact Or.inr rfl)) pgs_nil)))) (pgs_cons (pg_name (i := 11) sc_pairs_of.nd rfl (by first | exact Or.inl rfl | exact Or.inr rfl)) pgs_nil)))
    (pss_cons (ps_set (i := 15) sc_pairs_of.nd rfl (by first | exact Or.inl rfl | exact Or.inr rfl) (pe_nget2 (P := P) (w := w) rfl rfl (hu9 hr) (pv 9) (pe_df D_worths_of hr (pa_cons (pv 0) (pa_cons (pv 5) (pa_cons (pv 14) pa_nil)))) (pe_lst pa_nil) ⟨by rfl, by rfl, by rfl, by rfl⟩))
    (pss_one (ps_for PassesOwn.never rfl (pi_listK (K := K) rfl (pv 15)) (pg_tupK (n := 2) (K := K) rfl rfl (pgs_cons (pg_tupK (n := 3) (K := K) rfl rfl (pgs_cons (pg_name (i := 17) sc_pairs_of.nd rfl (by first | exact Or.inl rfl | exact Or.inr rfl)) (pgs_cons (pg_name (i := 18) sc_pairs_of.nd rfl (by first | exact Or.inl rfl | exact Or.inr rfl)) (pgs_cons (pg_name (i := 19) sc_pairs_of.nd rfl (by first | exact Or.inl rfl | exact Or.inr rfl)) pgs_nil)))) (pgs_cons (pg_name (i := 16) sc_pairs_of.nd rfl (by first | exact Or.inl rfl | exact Or.inr rfl)) pgs_nil)))
    (pss_one (ps_if (pt_chain op_le op_le (pe_op op_sub (pv 12) (pv 6)) (pv 17) (pe_op op_add (pv 12) (pv 7))) (pss_cons (ps_set (i := 20) sc_pairs_of.nd rfl (by first | exact Or.inl rfl | exact Or.inr rfl) (pe_op (op_catK (K := K) rfl) (pv 14) (pe_df D_worths_of hr (pa_cons (pv 1) (pa_cons (pv 8) (pa_cons (pv 19) pa_nil))))))
    (pss_one (ps_expr (pe_bmK (K := K) rfl PySem.F.plainAttrs_list PySem.F.slot_list_append PySem.F.type_list_append mt_append (pv 10) (pa_cons (pe_tup (pa_cons (pe_tup (pa_cons (pe_callB (call_maxK rfl) (by rfl) B.max_ (by decide +kernel) (pa_cons (pv 12) (pa_cons (pv 17) pa_nil))) (pa_cons (pe_op op_mul (pv 13) (pv 18)) (pa_cons (pv 20) pa_nil)))) (pa_cons (pe_df D_together hr (pa_cons (pe_lst (pa_cons (pv 11) (pa_cons (pv 16) pa_nil))) pa_nil)) pa_nil))) pa_nil)))))
    pss_nil))))))
    (pss_one (ps_ret (pv 10)))))))
      , ?_⟩
    walk_at "rd2"
    refine sl_d (T := T) (es := [.tup (txts q.keys), .num q.back, .num q.ahead]) hst (by rfl) fun v1 H1 e1 t1 => ?_
    refine gT3 t1 fun vk vb va tk tb ta => ?_
    obtain rfl := tb.num_inv
    obtain rfl := ta.num_inv
    walk_at "rd2"
    refine lcT (T := T) q.R colK (fun _ => Tp) (fun c => if c.1 ∈ q.keys then none else some (.text c.1)) (fun Q' k' => ?_) (by have := ok.qo.r; omega) r_tp (fun D i x c H2 ha1 e tx hD Qy Qn hy hn => ?_) (fun D H2 rest e2 hD prest => ?_)
    · walk_at "rd2"
      exact k' _ _ (Sm.refl _ _) (Tp.ts e1.ts _ _ hr')
    · refine gT2 tx fun v1 v2 t1 t2 => ?_
      walk_at "rd2"
      refine in_t t1 rfl (Tp.ts e.ts _ _ tk) (txts_atoms _) ⟨!decide (c.1 ∈ q.keys), by unfold txts; simp, ?_⟩
      by_cases hc : c.1 ∈ q.keys
      · rw [decide_eq_true hc]
        exact ifF rfl (hn H2 (if_pos hc) (Sm.refl _ _))
      · rw [decide_eq_false hc]
        exact ifT rfl (hy v1 _ H2 (if_neg hc) (Sm.refl _ _) t1)
    walk_at "rd2"
    have erest : q.R.filterMap (fun c => if c.1 ∈ q.keys then none else some (NestedKey.text c.1)) = txts (restN q) := by
      unfold restN txts colNames
      generalize q.R = l
      induction l with
      | nil => rfl
      | cons c l ih =>
        by_cases hc : c.1 ∈ q.keys
        · rw [List.filterMap_cons, if_pos hc, ih, List.map_cons, List.filter_cons]; simp [hc]
        · rw [List.filterMap_cons, if_neg hc, ih, List.map_cons, List.filter_cons]; simp [hc]
    rw [erest] at prest
    have trest := Tps.of prest
    have e12 := e1.trans e2
    refine ⟨vr, vk, b, q.R, q.keys, ys, rs.map (toRL "y"), rfl, Tp.ts e12.ts _ _ hr', Tp.ts e2.ts _ _ tk, e12.lst hb, by rw [toRL_k]; exact Tps.ts e12.ts _ _ hys, by have := ok.qo.r; omega, by have := ok.qo.k; omega, ok.kr, fun p hp => ?_, by rw [List.length_map]; have := ok.lr; omega, fun d H3 es e3 hd g => ?_⟩
    · obtain ⟨p', hp', rfl⟩ := List.mem_map.mp hp
      exact ok.r p' hp'
    walk_at "rd2"
    intro fa hfa
    have e4 : Sm T H3 (upd H3 fa (.lst [])) := Sm.new hfa
    have hf4 : (upd H3 fa (.lst [])) fa = some (.lst []) := upd_same
    generalize upd H3 fa (.lst []) = H4 at e4 hf4
    have eH4 := (e12.trans e3).trans e4
    have eH3 := e12.trans e3
    have hD3 := e3.lst hD
    have trest3 := Tps.ts e3.ts _ _ trest
    have tk3 := Tp.ts (e2.trans e3).ts _ _ tk
    generalize hj : qJn q = jn at k
    refine forL (fun H v (p : SR) => Tp H v (srK "x" p)) ls (fun Q' k' => ?_) (eH4.lst ha) (tps_pr (Tps.ts eH4.ts _ _ hxs)) (fun i σ' H' => (∃ z1 z2 z3 z4 z5 z6 z7 z8 z9 z10 z11 z12, σ' = [some vl, some vr, some vs', some (V.ref a), some (V.ref b), some vk, some (V.int q.back), some (V.int q.ahead), some (V.ref D), some (V.ref d), some (V.ref fa), z1, z2, z3, z4, z5, z6, z7, z8, z9, z10, z11, z12]) ∧ Sm T H3 H' ∧ ∃ zs, H' fa = some (.lst zs) ∧ Tps H' zs ((prs jn (ls.take i) rs).map prK))
      ⟨⟨_, _, _, _, _, _, _, _, _, _, _, _, rfl⟩, e4, [], hf4, .nil⟩ (fun i σ' H' _ p => p.2.1.lst (eH3.lst ha)) (fun H' v b ts t => Tp.ts ts _ _ t) (fun i x p σ' H' N hi ts tx pv hN => ?_) fun σ' H' ts pv => ?_
    · walk_at "rd2"
      exact k'
    · obtain ⟨⟨z1, z2, z3, z4, z5, z6, z7, z8, z9, z10, z11, z12, rfl⟩, e5, zs, hzs, tzs⟩ := pv
      obtain ⟨hok, hvl⟩ := ok.l p (List.mem_of_getElem? hi)
      refine gT2 tx fun w1 w2 u1 u2 => ?_
      walk_at "rd2"
      refine gT3 u1 fun w3 w4 w5 u3 u4 u5 => ?_
      obtain rfl := u3.num_inv
      obtain rfl := u4.num_inv
      walk_at "rd2"
      have g5 := g.sm e5
      have eH5 := eH3.trans e5
      refine ⟨d, rfl, ⟨es, g5.dict⟩, vl, vk, w5, q.L, q.keys, p.1.vs, rfl, Tp.ts eH5.ts _ _ hl, .inl (Tp.ts e5.ts _ _ tk3), u5, by have := ok.qo.l; omega, by have := ok.qo.k; omega, ok.kl, hvl, fun w6 H6 e6 u6 => ?_⟩
      walk_at "rd2"
      intro n1 hn1
      have e7 : Sm T H6 (upd H6 n1 (.lst [])) := Sm.new hn1
      have hn7 : (upd H6 n1 (.lst [])) n1 = some (.lst []) := upd_same
      have hn1f : n1 ≠ fa := fun z => by rw [z, e6.lst hzs] at hn1; cases hn1
      generalize upd H6 n1 (.lst []) = H7 at e7 hn7
      have e57 := e6.trans e7
      have g7 := g5.sm e57
      have u7 := Tp.ts e7.ts _ _ u6
      obtain ⟨c6, ys6, rfl, _, _⟩ := u6.tup_inv
      have dp : (NestedKey.tup (pickK (q.keys.map (plc (colNames q.L))) p.1.vs)).depth ≤ 8 := by
        show NestedKey.depthAll _ + 1 ≤ 8
        rw [depth_atoms (pick_atoms hok.1)]
        decide
      refine ⟨es, g7.dict, c6, rfl, _, u7, dp, ?_⟩
      obtain ⟨l, ms, hlv, hl7, tms, hlf⟩ : ∃ l ms, (valV (kvsOf es) (.tup (pickK (q.keys.map (plc (colNames q.L))) p.1.vs))).getD (.ref n1) = V.ref l ∧ H7 l = some (.lst ms) ∧ Tps H7 ms ((grp (keyAt (q.keys.map (plc (colNames q.R)))) (rs.map (toRL "y")) (.tup (pickK (q.keys.map (plc (colNames q.L))) p.1.vs))).map rlK) ∧ l ≠ fa := by
        rcases g.look (.tup (pickK (q.keys.map (plc (colNames q.L))) p.1.vs)) with ⟨h1, h2⟩ | ⟨l2, xs2, h1, h2, h3, h4, h5⟩
        · exact ⟨n1, [], by rw [h2]; rfl, hn7, by rw [h1]; exact .nil, hn1f⟩
        · exact ⟨l2, xs2, by rw [h1]; rfl, (e5.trans e57).lst h4, Tps.ts (e5.trans e57).ts _ _ h5, fun z => by rw [z, hfa] at h4; cases h4⟩
      rw [hlv]
      have egrp : grp (keyAt (q.keys.map (plc (colNames q.R)))) (rs.map (toRL "y")) (.tup (pickK (q.keys.map (plc (colNames q.L))) p.1.vs)) = (rs.filter fun b => decide (pickK jn.l p.1.vs = pickK jn.r b.1.vs)).map (toRL "y") := by
        unfold grp
        rw [List.filter_map]
        congr 1
        refine List.filter_congr fun b _ => ?_
        show decide (NestedKey.tup _ = NestedKey.tup _) = _
        rw [← hj]
        exact decide_eq_decide.mpr ⟨fun z => (NestedKey.tup.inj z).symm, fun z => congrArg NestedKey.tup (Eq.symm z)⟩
      rw [egrp, toRL_k] at tms
      generalize hgs : (rs.filter fun b => decide (pickK jn.l p.1.vs = pickK jn.r b.1.vs)) = gs at tms
      have hgm : ∀ b ∈ gs, b ∈ rs ∧ pickK jn.l p.1.vs = pickK jn.r b.1.vs := fun b hb => by
        rw [← hgs] at hb
        obtain ⟨h1, h2⟩ := List.mem_filter.mp hb
        exact ⟨h1, of_decide_eq_true h2⟩
      walk_at "rd2"
      refine forL (fun H v (p : SR) => Tp H v (srK "y" p)) gs (fun Q' k' => ?_) hl7 (tps_pr tms) (fun j σ' H' => (∃ y1 y2 y3 y4 y5 y6 y7, σ' = [some vl, some vr, some vs', some (V.ref a), some (V.ref b), some vk, some (V.int q.back), some (V.int q.ahead), some (V.ref D), some (V.ref d), some (V.ref fa), some w2, some (V.int p.1.t), some (V.int p.1.s), some w5, some (V.ref l), y1, y2, y3, y4, y5, y6, y7]) ∧ Sm T H3 H' ∧ H' l = some (.lst ms) ∧ ∃ zs, H' fa = some (.lst zs) ∧ Tps H' zs ((prs jn (ls.take i) rs ++ mates jn (gs.take j) p).map prK))
        ⟨⟨_, _, _, _, _, _, _, rfl⟩, e5.trans e57, hl7, zs, e57.lst hzs, by simpa [mates] using Tps.ts e57.ts _ _ tzs⟩ (fun j σ' H' _ p => p.2.2.1) (fun H' v b ts t => Tp.ts ts _ _ t) (fun j y b2 σ' H8 N' hj8 ts8 ty pv hN' => ?_) fun σ' H8 ts8 pv => ?_
      · walk_at "rd2"
        exact k'
      · obtain ⟨⟨y1, y2, y3, y4, y5, y6, y7, rfl⟩, e8, hl8, zs8, hzs8, tzs8⟩ := pv
        obtain ⟨hbr, hbk⟩ := hgm b2 (List.mem_of_getElem? hj8)
        obtain ⟨hok2, hvl2⟩ := ok.r b2 hbr
        refine gT2 ty fun s1 s2 r1 r2 => ?_
        walk_at "rd2"
        refine gT3 r1 fun s3 s4 s5 r3 r4 r5 => ?_
        obtain rfl := r3.num_inv
        obtain rfl := r4.num_inv
        walk_at "rd2"
        have hjlt : j < gs.length := (List.getElem?_eq_some_iff.mp hj8).1
        have hback : jn.back = q.back := by rw [← hj]; rfl
        have hahead : jn.ahead = q.ahead := by rw [← hj]; rfl
        have emeet : meetB jn p.1 b2.1 = (decide (p.1.t - q.back ≤ b2.1.t) && decide (b2.1.t ≤ p.1.t + q.ahead)) := by
          unfold meetB
          rw [decide_eq_true hbk, hback, hahead]
          rfl
        have etake : mates jn (gs.take (j + 1)) p = mates jn (gs.take j) p ++ (if meetB jn p.1 b2.1 = true then [(pairR jn p.1 b2.1, p.2, b2.2)] else []) := by
          rw [List.take_add_one, hj8]
          unfold mates
          rw [List.filter_append, List.map_append]
          congr 1
          show ([b2].filter _).map _ = _
          by_cases hm : meetB jn p.1 b2.1 = true
          · rw [List.filter_cons, if_pos hm, if_pos hm]; rfl
          · rw [List.filter_cons, if_neg hm, if_neg hm]; rfl
        have no : meetB jn p.1 b2.1 = false → ∀ σ3, (∃ y1 y2 y3 y4 y5 y6 y7, σ3 = [some vl, some vr, some vs', some (V.ref a), some (V.ref b), some vk, some (V.int q.back), some (V.int q.ahead), some (V.ref D), some (V.ref d), some (V.ref fa), some w2, some (V.int p.1.t), some (V.int p.1.s), some w5, some (V.ref l), y1, y2, y3, y4, y5, y6, y7]) → N' σ3 H8 := fun hm σ3 hσ => by
          refine hN' _ _ (TS.refl _) ⟨hσ, e8, hl8, zs8, hzs8, ?_⟩
          rw [etake, if_neg (by rw [hm]; exact Bool.false_ne_true), List.append_nil]
          exact tzs8
        refine ite2 (fun c1 => ?_) (fun c1 => ?_)
        · refine ite2 (fun c2 => ?_) (fun c2 => ?_)
          · have hm : meetB jn p.1 b2.1 = true := by rw [emeet, c1, c2]; rfl
            have eH8 := eH3.trans e8
            have r5' : Tp H8 s5 (.tup b2.1.vs) := r5
            have lrest : (restN q).length ≤ 10 := by
              unfold restN
              refine Nat.le_trans (List.length_filter_le _ _) ?_
              unfold colNames
              rw [List.length_map]
              exact ok.qo.r
            refine ⟨vr, _, s5, q.R, restN q, b2.1.vs, rfl, Tp.ts eH8.ts _ _ hr', .inr ⟨D, rest, rfl, e8.lst hD3, Tps.ts e8.ts _ _ trest3⟩, r5', by have := ok.qo.r; omega, by omega, fun n hn => ?_, hvl2, fun v9 H9 e9 t9 => ?_⟩
            · unfold restN at hn
              exact (List.mem_filter.mp hn).1
            have tw5 : Tp H8 w5 (.tup p.1.vs) := Tp.ts (e57.ts.trans ts8) _ _ u5
            refine cat_d (T := T) (Tp.ts e9.ts _ _ tw5) t9 (by rw [pick_len, List.length_map]; have := hok.2.1; omega) fun v10 H10 e10 t10 => ?_
            have e810 := e9.trans e10
            refine ⟨tyl (e810.lst hzs8), .inl (by rcases hok.2.2 with z | z <;> rw [z] <;> decide), ?_⟩
            intro p1 hp1
            have e11 : Sm T H10 (upd H10 p1 (.tup [V.int (max p.1.t b2.1.t), V.int (p.1.s * b2.1.s), v10])) := Sm.new hp1
            have t11 : Tp (upd H10 p1 (.tup [V.int (max p.1.t b2.1.t), V.int (p.1.s * b2.1.s), v10])) (.ref p1) (pairR jn p.1 b2.1).k := by
              have := tup_new hp1 (.cons (.int (max p.1.t b2.1.t)) (.cons (.int (p.1.s * b2.1.s)) (.cons t10 .nil)))
              rw [← hj]
              exact this
            generalize upd H10 p1 (.tup [V.int (max p.1.t b2.1.t), V.int (p.1.s * b2.1.s), v10]) = H11 at e11 t11
            intro p2 hp2
            have e12' : Sm T H11 (upd H11 p2 (.lst [w2, s2])) := Sm.new hp2
            have hp12 : (upd H11 p2 (.lst [w2, s2])) p2 = some (.lst [w2, s2]) := upd_same
            generalize upd H11 p2 (.lst [w2, s2]) = H12 at e12' hp12
            have e812 := (e810.trans e11).trans e12'
            refine ⟨p2, w2, s2, p.2, b2.2, rfl, hp12, Tp.ts ((e57.ts.trans ts8).trans e812.ts) _ _ u2, Tp.ts e812.ts _ _ r2, fun v13 H13 e13 t13 => ?_⟩
            intro p3 hp3
            have e14 : Sm T H13 (upd H13 p3 (.tup [V.ref p1, v13])) := Sm.new hp3
            have t14 : Tp (upd H13 p3 (.tup [V.ref p1, v13])) (.ref p3) (prK (pairR jn p.1 b2.1, p.2, b2.2)) := tup_new hp3 (.cons (Tp.ts (e12'.trans e13).ts _ _ t11) (.cons t13 .nil))
            generalize upd H13 p3 (.tup [V.ref p1, v13]) = H14 at e14 t14
            have e814 := (e812.trans e13).trans e14
            have lz : zs8.length ≤ 1000 := by
              rw [tzs8.length, List.length_map, List.length_append]
              have h1 := prs_len jn (ls.take i) rs
              have h2 := mates_len jn (gs.take j) p
              have h3 : (ls.take i).length ≤ 20 := Nat.le_trans (List.length_take_le _ _) (by have := ok.ll; rw [List.length_take] at *; have := (List.getElem?_eq_some_iff.mp hi).1; omega)
              have h4 : (gs.take j).length ≤ 20 := by
                have : gs.length ≤ rs.length := by rw [← hgs]; exact List.length_filter_le _ _
                have := ok.lr
                rw [List.length_take]
                omega
              have h5 : (ls.take i).length * rs.length ≤ 20 * 20 := Nat.mul_le_mul h3 ok.lr
              omega
            refine ⟨fa, zs8, _, rfl, rfl, e814.lst hzs8, sz_lt' (by omega), ?_⟩
            have mu : Mu (H14 fa) := by rw [e814.lst hzs8]; exact mu_lst
            have ts15 : TS H14 (upd H14 fa (.lst (zs8 ++ [V.ref p3]))) := TS.mu mu
            refine hN' _ _ (e814.ts.trans ts15) ⟨⟨_, _, _, _, _, _, _, rfl⟩, (e8.trans e814).mut hfa mu, by rw [upd_ne hlf]; exact e814.lst hl8, _, upd_same, ?_⟩
            rw [etake, if_pos hm, ← List.append_assoc, List.map_append]
            exact (Tps.ts (e814.ts.trans ts15) _ _ tzs8).append (.cons (Tp.ts ts15 _ _ t14) .nil)
          · exact no (by rw [emeet, bF c2, Bool.and_false]) _ ⟨_, _, _, _, _, _, _, rfl⟩
        · exact no (by rw [emeet, bF c1, Bool.false_and]) _ ⟨_, _, _, _, _, _, _, rfl⟩
      · obtain ⟨⟨y1, y2, y3, y4, y5, y6, y7, rfl⟩, e8, hl8, zs8, hzs8, tzs8⟩ := pv
        refine hN _ _ (e57.ts.trans ts8) ⟨⟨_, _, _, _, _, _, _, _, _, _, _, _, rfl⟩, e8, zs8, hzs8, ?_⟩
        rw [List.take_length] at tzs8
        have em : mates jn gs p = mates jn rs p := by
          rw [← hgs]
          unfold mates
          rw [List.filter_filter]
          congr 1
          refine List.filter_congr fun b _ => ?_
          unfold meetB
          cases decide (pickK jn.l p.1.vs = pickK jn.r b.1.vs) <;> simp
        rw [em] at tzs8
        have es2 : prs jn (ls.take (i + 1)) rs = prs jn (ls.take i) rs ++ mates jn rs p := by
          rw [List.take_add_one, hi]
          unfold prs
          rw [List.flatMap_append]
          simp
        rw [es2]
        exact tzs8
    · obtain ⟨⟨z1, z2, z3, z4, z5, z6, z7, z8, z9, z10, z11, z12, rfl⟩, e5, zs, hzs, tzs⟩ := pv
      walk_at "rd2"
      rw [List.take_length] at tzs
      exact k fa zs H' (eH3.trans e5) hzs tzs
end K67
end
/-! ## K67M8 -/
section
set_option maxHeartbeats 4000000
/-! K67M8: what a step gives -/
namespace K67
open PySem PySem.Spec PyProof.Rows L2 LamX
local macro_rules | `(tactic| walk_at "sm") => `(tactic| first | assumption | exact Sm.refl _ _ | (refine Sm.trans ?_ (by assumption); walk_at "sm"))
local macro_rules | `(tactic| walk_at "ts") => `(tactic| first | assumption | exact TS.refl _ | (refine TS.trans ?_ (by assumption); walk_at "ts") | (refine TS.trans ?_ (Sm.ts (by assumption)); walk_at "ts"))
local macro_rules | `(tactic| walk_at "tp") => `(tactic| first | assumption | exact Tp.int _ | exact Tp.str _ | exact Tp.non | (refine Tp.ts (H := ?_) ?_ _ _ (by assumption); walk_at "ts"))
local macro_rules | `(tactic| walk_at "tps") => `(tactic| first | assumption | exact Tps.nil | (refine Tps.cons ?_ ?_; · walk_at "tp"; · walk_at "tps") | (refine Tps.ts (H := ?_) ?_ _ _ (by assumption); walk_at "ts"))
local macro_rules | `(tactic| walk_at "rd") => `(tactic| try simp only [rMax2, and_assoc, tYes, tSeq, tIfS, tRet, tNext, tTest, tB, tOp, tUn, tVar, tC, tTup, tLst, tCons, tNil, tIf, tCB, tCall, tBM, tBM0, tAsg, gName, gCons, gNil, gSub, tDrop, tPar, tPar3, tAug, tAnd, tOr, tNot, tAndV, tOrV, tNotV, tChain, tSl, tPart, tNoPart, rI0, rI, rU, rEq, rNe, L2.start, wipe, sz0, sz1, sz2, sz3, sz4, sz5, sz6, List.map_cons, List.map_nil, List.length_cons, List.length_nil, List.cons_append, List.nil_append, List.append_nil, List.getElem?_cons_zero, List.getElem?_cons_succ, List.set_cons_zero, List.set_cons_succ, List.replicate_zero, List.replicate_succ, Option.some.injEq, V.bl.injEq, V.int.injEq, V.str.injEq, List.cons.injEq, and_true, true_and, exists_eq_left', exists_eq_left, exists_eq', exists_eq, exists_and_left, Nat.reduceSub, Nat.reduceAdd, Nat.reduceLeDiff, decide_true, decide_false, if_true, if_false, Bool.false_eq_true, reduceIte])
local macro_rules | `(tactic| walk_at "rd2") => `(tactic| try simp only [tDGet, sDPut, tDNewK, tNNew, tNGet2, tNSetd, tNGet, sNPut, tTupF, tCKw, tDead, sDead, tDispN, tPairs, StX.tStar, rNeDN, rNeDN2, rMax2, and_assoc, tYes, tSeq, tIfS, tRet, tNext, tTest, tB, tOp, tUn, tVar, tC, tTup, tLst, tCons, tNil, tIf, tCB, tCall, tBM, tBM0, tAsg, gName, gCons, gNil, gSub, tDrop, tPar, tPar3, tAug, tAnd, tOr, tNot, tAndV, tOrV, tNotV, tChain, tSl, tPart, tNoPart, rI0, rI, rU, rEq, rNe, L2.start, wipe, sz0, sz1, sz2, sz3, sz4, sz5, sz6, List.map_cons, List.map_nil, List.length_cons, List.length_nil, List.cons_append, List.nil_append, List.append_nil, List.getElem?_cons_zero, List.getElem?_cons_succ, List.set_cons_zero, List.set_cons_succ, List.replicate_zero, List.replicate_succ, Option.some.injEq, V.bl.injEq, V.int.injEq, V.str.injEq, List.cons.injEq, and_true, true_and, exists_eq_left', exists_eq_left, exists_eq', exists_eq, exists_and_left, Nat.reduceSub, Nat.reduceAdd, Nat.reduceLeDiff, decide_true, decide_false, if_true, if_false, Bool.false_eq_true, reduceIte])

def rowAt (i : Nat) : En → Option SR
  | .row r => some (r, i)
  | .mark _ => none
def rowsL (p : List En) : List SR := (List.range p.length).filterMap fun i => p[i]?.bind (rowAt i)
theorem srcRows_eq (n : Str) (p : List En) : srcRows n p = (rowsL p).map (srK n) := by
  unfold srcRows rowsL
  rw [List.map_filterMap]
  congr 1
  funext i
  cases p[i]? with
  | none => rfl
  | some e => cases e <;> rfl
def outs (q : Qry) (px py : List En) : List (Str × List NestedKey) := [("x", srcRows "x" px), ("y", srcRows "y" py), ("j", (prs (qJn q) (rowsL px) (rowsL py)).map prK)]
theorem lsK_sm {T : List (Addr × Str)} {H H' : Hp} {v : V} {ds : List NestedKey} (e : Sm T H H') (h : LsK H v ds) : LsK H' v ds := let ⟨a, xs, h1, h2, h3⟩ := h; ⟨a, xs, h1, e.lst h2, Tps.ts e.ts _ _ h3⟩
/-- what is asked of a query and its parts -/
structure QOk (q : Qry) (px py : List En) : Prop where
  rows : QRows q (rowsL px) (rowsL py)
  nx : NoLate px
  ny : NoLate py
  lx : px.length ≤ 1000
  ly : py.length ≤ 1000
section
variable (P : Program) (w : World) (T : List (Addr × Str))
def sp_of_step : Sp := fun vs H Q _ => ∃ (vq : V) (n : Str) (d b : Addr) (m : Int) (q : Qry) (px py : List En) (i : Nat) (out : List NestedKey), vs = [vq, .str n, .ref d, .int m, .ref b] ∧ Tp H vq q.k ∧ Told H d px py ∧ QOk q px py ∧ (outs q px py)[i]? = some (n, out) ∧ DKR LsK H b ((outs q px py).take i) ∧
  ∀ v' H', Sm T H H' → LsK H' v' out → Q v' H'
end
variable {P : Program} {w : World} {K : PySem.W.Frag} {mg : Str → Option Value} {base : Heap} {T : List (Addr × Str)} {f : Addr} {fd : FuncData}
abbrev N_of_step : List Str := ["query", "name", "told", "mark", "before", "step", "some", "columns", "found", "lot", "time", "sign", "values", "left", "right", "other", "row", "column", "e"]
theorem sc_of_step : FnScope N_of_step ["query", "name", "told", "mark", "before"] (defScope s_of_step) := ⟨rfl, rfl, rfl, by decide +kernel, rfl, by decide +kernel, by decide +kernel⟩
theorem ok_of_step (B : Bs mg) (D_step_of : Df P w K mg base "step_of" 1 ["query", "name"] (sp_step T)) (D_steps_ahead : Df P w K mg base "steps_ahead" 2 ["query", "name"] (sp_steps_ahead T)) (D_columns_of : Df P w K mg base "columns_of" 2 ["query", "name"] (sp_columns_of T)) (D_of_source : Df P w K mg base "of_source" 2 ["name", "parts"] (sp_of_source T)) (D_pairs_of : Df P w K mg base "pairs_of" 3 ["left_columns", "right_columns", "step", "lefts", "rights"] (sp_pairs_of T)) (hg : mg "of_step" = some (.ref f)) (F : FnP K "of_step" s_of_step f fd) : Df P w K mg base "of_step" 4 ["query", "name", "told", "mark", "before"] (sp_of_step T) := by
  refine df_mk hg F sc_of_step (fun vs H Q E h => ?_) (fun _ _ _ _ _ _ us hl => match us, hl with | [_, _, _, _, _], _ => rfl) (fun cdv A outer s H vs Q E hr h => ?_)
  · obtain ⟨_, _, _, _, _, _, _, _, _, _, rfl, _⟩ := h
    rfl
  · obtain ⟨vq, n, d, b, m, q, px, py, i, out, rfl, hq, hd, ok, hi, hb, k⟩ := h
    refine ⟨_,
      (pss_cons (ps_set (i := 5) sc_of_step.nd rfl (by first | exact Or.inl rfl | exact Or.inr rfl) (pe_df D_step_of hr (pa_cons (pv 0) (pa_cons (pv 1) pa_nil))))
    (pss_cons (ps_setLc (i := 6) (own := [("other", 15)]) (by rfl) sc_of_step.nd rfl rfl (sw_true rfl rfl rfl (by decide +kernel)) (pi_tupK (K := K) rfl (pe_df D_steps_ahead hr (pa_cons (pv 0) (pa_cons (pv 1) pa_nil)))) (blkOk_by (N := N_of_step) (sc := defScope s_of_step) (by decide +kernel)) (fun _ _ _ _ _ => (pg_name (i := 15) sc_of_step.nd rfl (by first | exact Or.inl rfl | exact Or.inr rfl))) (fun _ _ _ _ _ => pts_nil) (fun _ _ _ _ _ => (pe_dget (hu_of hr) (pv 4) (pv 15) (fun _ _ => rfl))))
    (pss_cons (ps_set (i := 7) sc_of_step.nd rfl (by first | exact Or.inl rfl | exact Or.inr rfl) (pe_lc (own := [("other", 15)]) (by rfl) sc_of_step.nd (pi_tupK (K := K) rfl (pe_df D_steps_ahead hr (pa_cons (pv 0) (pa_cons (pv 1) pa_nil)))) (blkOk_by (N := N_of_step) (sc := defScope s_of_step) (by decide +kernel)) (fun _ _ _ _ _ => (pg_name (i := 15) sc_of_step.nd rfl (by first | exact Or.inl rfl | exact Or.inr rfl))) (fun _ _ _ _ _ => pts_nil) (fun _ _ _ _ _ => (pe_df D_columns_of hr (pa_cons (pv 0) (pa_cons (pv 15) pa_nil))))))
    (pss_cons (ps_if (pt_cmpR op_eq (pe_ix (ix_tupK (K := K) rfl) (pv 5) pe_int (fun _ _ => rfl)) pe_str (nomark _)) (pss_one (ps_ret (pe_df D_of_source hr (pa_cons (pv 1) (pa_cons (pe_dget (hu_of hr) (pv 2) (pv 1) (fun _ _ => rfl)) pa_nil)))))
    pss_nil)
    (pss_cons (ps_if (pt_cmpR op_eq (pe_ix (ix_tupK (K := K) rfl) (pv 5) pe_int (fun _ _ => rfl)) pe_str (nomark _)) (pss_one (ps_dead))
    pss_nil)
    (pss_cons (ps_if (pt_cmpR op_eq (pe_ix (ix_tupK (K := K) rfl) (pv 5) pe_int (fun _ _ => rfl)) pe_str (nomark _)) (pss_cons (ps_dead)
    (pss_cons (ps_dead)
    (pss_one (ps_dead))))
    pss_nil)
    (pss_cons (ps_if (pt_cmpR op_eq (pe_ix (ix_tupK (K := K) rfl) (pv 5) pe_int (fun _ _ => rfl)) pe_str (nomark _)) (pss_one (ps_dead))
    pss_nil)
    (pss_cons (ps_if (pt_cmpR op_eq (pe_ix (ix_tupK (K := K) rfl) (pv 5) pe_int (fun _ _ => rfl)) pe_str (nomark _)) (pss_one (ps_dead))
    pss_nil)
    (pss_cons (ps_asg (pe_slice (sl_tupK (K := K) rfl) (pv 5) (po_some pe_int) (po_some pe_int)) (pg_tupK (n := 2) (K := K) rfl rfl (pgs_cons (pg_name (i := 13) sc_of_step.nd rfl (by first | exact Or.inl rfl | exact Or.inr rfl)) (pgs_cons (pg_name (i := 14) sc_of_step.nd rfl (by first | exact Or.inl rfl | exact Or.inr rfl)) pgs_nil))))
    (pss_one (ps_ret (pe_df D_pairs_of hr (pa_cons (pe_df D_columns_of hr (pa_cons (pv 0) (pa_cons (pv 13) pa_nil))) (pa_cons (pe_df D_columns_of hr (pa_cons (pv 0) (pa_cons (pv 14) pa_nil))) (pa_cons (pv 5) (pa_cons (pe_dget (hu_of hr) (pv 4) (pv 13) (fun _ _ => rfl)) (pa_cons (pe_dget (hu_of hr) (pv 4) (pv 14) (fun _ _ => rfl)) pa_nil)))))))))))))))))
      , ?_⟩
    walk_at "rd2"
    have hil : i < 3 := (List.getElem?_eq_some_iff.mp hi).1
    obtain ⟨st, ns, hst, hns, hdo, hco, alt⟩ : ∃ st ns, (n, st) ∈ q.steps ∧ (n, ns) ∈ q.aheads ∧ (∀ x ∈ ns, ∃ ds, (x, ds) ∈ (outs q px py).take i) ∧ (∀ x ∈ ns, ∃ cs, (x, cs) ∈ q.cols) ∧
        ((∃ cs p, st = srcStep cs ∧ out = srcRows n p ∧ NoLate p ∧ p.length ≤ 1000 ∧ ∀ H', Told H' d px py → ∃ v, DGet H' d (.str n) (some v) ∧ Tp H' v (.tup [partK p])) ∨ (i = 2 ∧ st = joinStep q ∧ out = (prs (qJn q) (rowsL px) (rowsL py)).map prK)) := by
      match i, hi with
      | 0, hi =>
        obtain ⟨rfl, rfl⟩ := Prod.mk.inj (Option.some.inj hi)
        exact ⟨_, [], List.mem_cons_self, List.mem_cons_self, fun x hx => (by cases hx), fun x hx => (by cases hx), .inl ⟨q.L, px, rfl, rfl, ok.nx, ok.lx, fun H' h => h.x⟩⟩
      | 1, hi =>
        obtain ⟨rfl, rfl⟩ := Prod.mk.inj (Option.some.inj hi)
        exact ⟨_, [], List.mem_cons_of_mem _ List.mem_cons_self, List.mem_cons_of_mem _ List.mem_cons_self, fun x hx => (by cases hx), fun x hx => (by cases hx), .inl ⟨q.R, py, rfl, rfl, ok.ny, ok.ly, fun H' h => h.y⟩⟩
      | 2, hi =>
        obtain ⟨rfl, rfl⟩ := Prod.mk.inj (Option.some.inj hi)
        refine ⟨_, ["x", "y"], List.mem_cons_of_mem _ (List.mem_cons_of_mem _ List.mem_cons_self), List.mem_cons_of_mem _ (List.mem_cons_of_mem _ List.mem_cons_self), fun x hx => ?_, fun x hx => ?_, .inr ⟨rfl, rfl, rfl⟩⟩
        · rcases List.mem_cons.mp hx with rfl | hx
          · exact ⟨_, List.mem_cons_self⟩
          · obtain rfl := List.mem_singleton.mp hx
            exact ⟨_, List.mem_cons_of_mem _ List.mem_cons_self⟩
        · rcases List.mem_cons.mp hx with rfl | hx
          · exact ⟨_, List.mem_cons_self⟩
          · obtain rfl := List.mem_singleton.mp hx
            exact ⟨_, List.mem_cons_of_mem _ List.mem_cons_self⟩
      | i + 3, hi => exact absurd hil (by omega)
    have nd : (((outs q px py).take i).map (·.1)).Nodup := by
      rw [List.map_take]
      exact (q.nd : ((outs q px py).map (·.1)).Nodup).sublist (List.take_sublist _ _)
    have lns : ns.length ≤ 100000 := by
      rcases List.mem_cons.mp hns with h | h
      · cases h; decide
      · rcases List.mem_cons.mp h with h | h
        · cases h; decide
        · cases List.mem_singleton.mp h; decide
    refine ⟨vq, q, n, st, rfl, hq, hst, fun v1 H1 e1 t1 => ?_⟩
    refine lcT (T := T) ns .text (fun _ _ _ (_ : Unit) => True) (fun _ => some ()) (fun Q' k' => ?_) lns (fun _ _ _ _ _ _ h => h) (fun D i x n2 H2 ha1 e tx hD Qy Qn hy hn => ?_) (fun D H2 ys2 e2 hD2 _ => ?_)
    · walk_at "rd2"
      exact ⟨vq, q, n, ns, rfl, Tp.ts e1.ts _ _ hq, hns, fun v' H' e t => k' v' H' e t⟩
    · walk_at "rd2"
      obtain rfl := tx.text_inv
      obtain ⟨ds, hds⟩ := hdo n2 (List.mem_of_getElem? ha1)
      obtain ⟨vv, gv, _⟩ := dk_got (DKR.sm (fun _ _ r => lsK_sm (e1.trans e) r) (e1.trans e) hb) nd hds
      exact ⟨b, rfl, vv, gv, hy vv () H2 rfl (Sm.refl _ _) trivial⟩
    have e12 := e1.trans e2
    refine lcT (T := T) ns .text (fun _ _ _ (_ : Unit) => True) (fun _ => some ()) (fun Q' k' => ?_) lns (fun _ _ _ _ _ _ h => h) (fun D i x n2 H3 ha1 e tx hD Qy Qn hy hn => ?_) (fun D3 H3 ys3 e3 hD3 _ => ?_)
    · walk_at "rd2"
      exact ⟨vq, q, n, ns, rfl, Tp.ts e12.ts _ _ hq, hns, fun v' H' e t => k' v' H' e t⟩
    · walk_at "rd2"
      obtain rfl := tx.text_inv
      obtain ⟨cs, hcs⟩ := hco n2 (List.mem_of_getElem? ha1)
      exact ⟨vq, q, n2, cs, rfl, Tp.ts (e12.trans e).ts _ _ hq, ok.rows.qo, hcs, fun v' H' e' t => hy v' () H' rfl e' trivial⟩
    have e13 := e12.trans e3
    have t13 := Tp.ts (e2.trans e3).ts _ _ t1
    rcases alt with ⟨cs, p, rfl, rfl, hnl, hpl, hg⟩ | ⟨rfl, rfl, rfl⟩
    · refine ix_d (i := 0) t13 rfl fun x t => ?_
      obtain rfl := t.text_inv
      walk_at "rd2"
      refine ⟨rfl, ?_⟩
      obtain ⟨v4, g4, t4⟩ := hg H3 (hd.sm e13)
      exact ⟨d, rfl, v4, g4, n, v4, p, rfl, t4, hnl, hpl, fun a xs H4 e4 _ ha txs => k (.ref a) H4 (e13.trans e4) ⟨a, xs, rfl, ha, txs⟩⟩
    · iterate 5
        refine ix_d (i := 0) t13 rfl fun x t => ?_
        obtain rfl := t.text_inv
        walk_at "rd2"
        refine ⟨rfl, ifF (by decide +kernel) ?_⟩
      refine sl_d (T := T) (es := [.text "x", .text "y"]) t13 (by rfl) fun v4 H4 e4 t4 => ?_
      refine gT2 t4 fun vx vy tx ty => ?_
      obtain rfl := tx.text_inv
      obtain rfl := ty.text_inv
      walk_at "rd2"
      have e14 := e13.trans e4
      refine ⟨vq, q, "x", q.L, rfl, Tp.ts e14.ts _ _ hq, ok.rows.qo, List.mem_cons_self, fun v5 H5 e5 t5 => ?_⟩
      refine ⟨vq, q, "y", q.R, rfl, Tp.ts (e14.trans e5).ts _ _ hq, ok.rows.qo, List.mem_cons_of_mem _ List.mem_cons_self, fun v6 H6 e6 t6 => ?_⟩
      have e16 := (e14.trans e5).trans e6
      have hb6 := DKR.sm (fun _ _ r => lsK_sm e16 r) e16 hb
      obtain ⟨v7, g7, a7, xs7, rfl, h7, t7⟩ := dk_got (n := "x") (b := srcRows "x" px) hb6 nd List.mem_cons_self
      obtain ⟨v8, g8, a8, xs8, rfl, h8, t8⟩ := dk_got (n := "y") (b := srcRows "y" py) hb6 nd (List.mem_cons_of_mem _ List.mem_cons_self)
      refine ⟨b, rfl, _, g7, b, rfl, _, g8, ?_⟩
      rw [srcRows_eq] at t7 t8
      exact ⟨v5, v6, v1, a7, a8, q, rowsL px, rowsL py, xs7, xs8, rfl, Tp.ts e6.ts _ _ t5, t6, Tp.ts ((e4.trans e5).trans e6).ts _ _ t13, h7, t7, h8, t8, ok.rows, fun c zs H7 e7 hc tz => k (.ref c) H7 (e16.trans e7) ⟨c, zs, rfl, hc, tz⟩⟩
end K67
end
/-! ## K67Code -/
section
set_option maxHeartbeats 4000000
/-! K67Code: a def whose code object is known; depths of data -/
namespace K67
open PySem PySem.Spec PyProof.Rows L2 LamX
section
variable {P : Program} {w : World} {K : PySem.W.Frag} {mg : Str → Option Value} {base : Heap} {gx x qual : Str} {params : Arguments} {body : List Stmt} {scope : Scope} {f : Addr} {fd : FuncData}
theorem df_mkC {N ps : List Str} {k : Nat} {sp : Sp} {p : Str × Option Str} (hf : f = He.fAd K p) (hg : mg gx = some (.ref f)) (F : FunD K x qual params body scope [] [] f fd) (S : FnScope N ps scope) (len : ∀ vs H Q E, sp vs H Q E → vs.length = ps.length)
    (hb : ∀ (kV doc pm : Value) (an : Option Addr) (cdv ct : Value) (us : List Value), us.length = ps.length → bindArgs (PySem.W.fnOf x qual params body scope .none kV doc pm an cdv ct) ⟨us, []⟩ = pure (ps.zip us))
    (hbody : ∀ (cdv : Value), cdv = .ref (He.codeOf K p) → ∀ (A : Around) (outer : List Env) (s : Shared) (H : Hp) (vs : List V) (Q : VK) (E : XK), Room k (A.deeper (envOfC qual scope s.heap.objs.size f cdv)) → sp vs H Q E →
      ∃ t, PSs (cxOf CX0 P w K mg base N qual scope f cdv A outer s H E).nox body t ∧ t { nx := fun _ H' => Q .non H', rt := Q } (start N vs) H) : Df P w K mg base gx (k + 1) ps sp := by
  refine ⟨f, fd, hg, ?_, F.kp, F.bindsN hb⟩
  obtain ⟨oc, od, dV, kV, doc, pm, an, cdv, ct, osl, rfl, lk, hcd, _, _⟩ := F.ex
  have hc : cdv = .ref (He.codeOf K p) := by
    cases cdv with
    | ref c =>
      subst hf
      rw [He.codeOf_eq lk rfl]
    | _ => exact absurd hcd Bool.false_ne_true
  refine fn_of lk hcd S len fun A outer s H vs Q E hr h => ?_
  obtain ⟨t, h1, h2⟩ := hbody cdv hc A outer s H vs Q E hr h
  exact ⟨t, PSs.nox h1, h2⟩
end
mutual
theorem depth_data : ∀ d : NestedKey, d.data.depth = d.depth
  | .none => rfl
  | .num _ => rfl
  | .text _ => rfl
  | .tup ds => by
    show PyData.depthAll (NestedKey.datas ds) + 1 = NestedKey.depthAll ds + 1
    rw [depth_datas ds]
theorem depth_datas : ∀ ds : List NestedKey, PyData.depthAll (NestedKey.datas ds) = NestedKey.depthAll ds
  | [] => rfl
  | d :: ds => by
    show max d.data.depth (PyData.depthAll (NestedKey.datas ds)) = max d.depth (NestedKey.depthAll ds)
    rw [depth_data d, depth_datas ds]
end
theorem depth_rank (d : NestedKey) (h : atomB d = true) : (rankK d).depth ≤ 1 := by
  cases d with
  | tup _ => cases h
  | _ => exact Nat.le_refl _
theorem depth_le_all {n : Nat} : ∀ {ds : List NestedKey}, (∀ d ∈ ds, d.depth ≤ n) → NestedKey.depthAll ds ≤ n
  | [], _ => Nat.zero_le _
  | d :: ds, h => by
    show max d.depth (NestedKey.depthAll ds) ≤ n
    exact Nat.max_le.mpr ⟨h d List.mem_cons_self, depth_le_all fun e he => h e (List.mem_cons_of_mem _ he)⟩
theorem depth_ranks {vs : List NestedKey} (h : vs.all atomB = true) : (NestedKey.tup (vs.map rankK)).depth ≤ 2 := by
  have : NestedKey.depthAll (vs.map rankK) ≤ 1 := depth_le_all fun d hd => by
    obtain ⟨e, he, rfl⟩ := List.mem_map.mp hd
    exact depth_rank e (List.all_eq_true.mp h e he)
  show NestedKey.depthAll _ + 1 ≤ 2
  omega
theorem depth_given {r : Row} (h : r.vs.all atomB = true) : (givenK r).depth ≤ 3 := by
  have : NestedKey.depthAll [.num r.t, .num r.s, .tup (r.vs.map rankK)] ≤ 2 := depth_le_all fun d hd => by
    rcases List.mem_cons.mp hd with rfl | hd
    · exact Nat.zero_le _
    · rcases List.mem_cons.mp hd with rfl | hd
      · exact Nat.zero_le _
      · obtain rfl := List.mem_singleton.mp hd
        exact depth_ranks h
  show NestedKey.depthAll _ + 1 ≤ 3
  omega
end K67
end
/-! ## K67M9 -/
section
set_option maxHeartbeats 4000000
/-! K67M9: the rows in their order, the meaning -/
namespace K67
open PySem PySem.Spec PyProof.Rows L2 LamX NdefX
local macro_rules | `(tactic| walk_at "sm") => `(tactic| first | assumption | exact Sm.refl _ _ | (refine Sm.trans ?_ (by assumption); walk_at "sm"))
local macro_rules | `(tactic| walk_at "ts") => `(tactic| first | assumption | exact TS.refl _ | (refine TS.trans ?_ (by assumption); walk_at "ts") | (refine TS.trans ?_ (Sm.ts (by assumption)); walk_at "ts"))
local macro_rules | `(tactic| walk_at "tp") => `(tactic| first | assumption | exact Tp.int _ | exact Tp.str _ | exact Tp.non | (refine Tp.ts (H := ?_) ?_ _ _ (by assumption); walk_at "ts"))
local macro_rules | `(tactic| walk_at "tps") => `(tactic| first | assumption | exact Tps.nil | (refine Tps.cons ?_ ?_; · walk_at "tp"; · walk_at "tps") | (refine Tps.ts (H := ?_) ?_ _ _ (by assumption); walk_at "ts"))
local macro_rules | `(tactic| walk_at "rd") => `(tactic| try simp only [rMax2, and_assoc, tYes, tSeq, tIfS, tRet, tNext, tTest, tB, tOp, tUn, tVar, tC, tTup, tLst, tCons, tNil, tIf, tCB, tCall, tBM, tBM0, tAsg, gName, gCons, gNil, gSub, tDrop, tPar, tPar3, tAug, tAnd, tOr, tNot, tAndV, tOrV, tNotV, tChain, tSl, tPart, tNoPart, rI0, rI, rU, rEq, rNe, L2.start, wipe, sz0, sz1, sz2, sz3, sz4, sz5, sz6, List.map_cons, List.map_nil, List.length_cons, List.length_nil, List.cons_append, List.nil_append, List.append_nil, List.getElem?_cons_zero, List.getElem?_cons_succ, List.set_cons_zero, List.set_cons_succ, List.replicate_zero, List.replicate_succ, Option.some.injEq, V.bl.injEq, V.int.injEq, V.str.injEq, List.cons.injEq, and_true, true_and, exists_eq_left', exists_eq_left, exists_eq', exists_eq, exists_and_left, Nat.reduceSub, Nat.reduceAdd, Nat.reduceLeDiff, decide_true, decide_false, if_true, if_false, Bool.false_eq_true, reduceIte])
local macro_rules | `(tactic| walk_at "rd2") => `(tactic| try simp only [tDGet, sDPut, tDNewK, tNNew, tNGet2, tNSetd, tNGet, sNPut, tTupF, tCKw, tDead, sDead, tDispN, tPairs, StX.tStar, rNeDN, rNeDN2, rMax2, and_assoc, tYes, tSeq, tIfS, tRet, tNext, tTest, tB, tOp, tUn, tVar, tC, tTup, tLst, tCons, tNil, tIf, tCB, tCall, tBM, tBM0, tAsg, gName, gCons, gNil, gSub, tDrop, tPar, tPar3, tAug, tAnd, tOr, tNot, tAndV, tOrV, tNotV, tChain, tSl, tPart, tNoPart, rI0, rI, rU, rEq, rNe, L2.start, wipe, sz0, sz1, sz2, sz3, sz4, sz5, sz6, List.map_cons, List.map_nil, List.length_cons, List.length_nil, List.cons_append, List.nil_append, List.append_nil, List.getElem?_cons_zero, List.getElem?_cons_succ, List.set_cons_zero, List.set_cons_succ, List.replicate_zero, List.replicate_succ, Option.some.injEq, V.bl.injEq, V.int.injEq, V.str.injEq, List.cons.injEq, and_true, true_and, exists_eq_left', exists_eq_left, exists_eq', exists_eq, exists_and_left, Nat.reduceSub, Nat.reduceAdd, Nat.reduceLeDiff, decide_true, decide_false, if_true, if_false, Bool.false_eq_true, reduceIte])

def lamK (p : PRw) : NestedKey := .tup [givenK p.1, .tup [.tup (plD "x" p.2.1), .tup (plD "y" p.2.2)]]
theorem lam_rwl_nofree (y : Str × NameKind) (hy : y ∈ [(("one" : Str), NameKind.local), (("place_of" : Str), NameKind.globalImplicit)]) (e : y.2 = .free) : False := by
  rcases List.mem_cons.mp hy with rfl | hy
  · cases e
  · obtain rfl := List.mem_singleton.mp hy
    cases e
theorem dk_putL {H : Hp} {d : Addr} {ps : List (Str × List NestedKey)} {n : Str} {b : List NestedKey} {v : V} (h : DKR LsK H d ps) (hn : n ∉ ps.map (·.1)) (hl : ps.length ≤ 100000) (hv : LsK H v b) :
    ∃ o, DPut H d (.str n) v (upd H d o) ∧ DKR LsK (upd H d o) d (ps ++ [(n, b)]) ∧ Mu (H d) := by
  obtain ⟨kvs, h1, h2⟩ := h
  have hlen := Paired.length h2
  have hm : Mu (H d) := by rw [h1]; exact mu_dK
  have up : ∀ (o : HO) v ds, LsK H v ds → LsK (upd H d o) v ds := fun o v ds ⟨a, xs, e, ha, ht⟩ =>
    ⟨a, xs, e, by rw [upd_ne (fun z => by rw [z, h1] at ha; cases ha)]; exact ha, Tps.ts (TS.mu hm) _ _ ht⟩
  refine ⟨_, DPut.k (k := Sum.inr n) h1 (sz_lt' (by omega)), ⟨_, upd_same, ?_⟩, hm⟩
  rw [kr_put h2 hn]
  exact Paired.snoc (Paired.mapP h2 fun _ _ r => ⟨r.1, up _ _ _ r.2⟩) ⟨rfl, up _ _ _ hv⟩
/-- the pairs, in order -/
def dueP (q : Qry) (px py : List En) : List PRw := (prs (qJn q) (rowsL px) (rowsL py)).mergeSort (PySem.W.dataLe false fun p => (lamK p).data)
theorem rowsL_mark (p : List En) (m : Int) : rowsL (p ++ [.mark m]) = rowsL p := by
  unfold rowsL
  rw [List.length_append, List.length_singleton, range_fm]
  have e1 : (p ++ [En.mark m])[p.length]?.bind (rowAt p.length) = none := by simp [rowAt]
  rw [e1, List.append_nil]
  have key : ∀ (l : List Nat) (f g : Nat → Option SR), (∀ i ∈ l, f i = g i) → l.filterMap f = l.filterMap g := by
    intro l f g h
    induction l with
    | nil => rfl
    | cons a l ih =>
      rw [List.filterMap_cons, List.filterMap_cons, h a List.mem_cons_self, ih fun i hi => h i (List.mem_cons_of_mem _ hi)]
  refine key _ _ _ fun i hi => ?_
  rw [List.getElem?_append_left (List.mem_range.mp hi)]
theorem lateGo_mark (k : Int) : ∀ (p : List En) (m : Int), lateGo m p → lateGo m (p ++ [.mark k])
  | [], _, _ => True.intro
  | .mark j :: r, m, h => lateGo_mark k r (max m j) h
  | .row a :: r, m, h => ⟨h.1, lateGo_mark k r m h.2⟩
section
variable (P : Program) (w : World) (T : List (Addr × Str))
def sp_rwl : Sp := fun vs H Q _ => ∃ (vq : V) (d : Addr) (q : Qry) (px py : List En), vs = [vq, .ref d] ∧ Tp H vq q.k ∧ Told H d px py ∧ Tabs T H ∧ QOk q px py ∧ (∀ p ∈ prs (qJn q) (rowsL px) (rowsL py), p.1.ok) ∧
  PySem.W.AllAlike ((prs (qJn q) (rowsL px) (rowsL py)).map fun p => (lamK p).data) ∧ ∀ v' H', Sm T H H' → LsK H' v' ((dueP q px py).map prK) → Q v' H'
def sp_meaning : Sp := fun vs H Q _ => ∃ (vq : V) (d : Addr) (q : Qry) (px py : List En), vs = [vq, .ref d] ∧ Tp H vq q.k ∧ Told H d px py ∧ Tabs T H ∧ QOk q px py ∧ (∀ p ∈ prs (qJn q) (rowsL px) (rowsL py), p.1.ok) ∧
  PySem.W.AllAlike ((prs (qJn q) (rowsL px) (rowsL py)).map fun p => (lamK p).data) ∧ ∀ a H', Sm T H H' → DictK P w H' a (bagV ((dueP q px py).map fun p => p.1.k)) → Q (.ref a) H'
def sp_whole : Sp := fun vs H Q _ => ∃ (vq : V) (d : Addr) (q : Qry) (px py : List En), vs = [vq, .ref d] ∧ Tp H vq q.k ∧ Told H d px py ∧ Tabs T H ∧ QOk q px py ∧ (∀ p ∈ prs (qJn q) (rowsL px) (rowsL py), p.1.ok) ∧
  PySem.W.AllAlike ((prs (qJn q) (rowsL px) (rowsL py)).map fun p => (lamK p).data) ∧ (px.length ≤ 900 ∧ py.length ≤ 900) ∧ ∀ a H', Sm T H H' → DictK P w H' a (bagV ((dueP q px py).map fun p => p.1.k)) → Q (.ref a) H'
end
variable {P : Program} {w : World} {K : PySem.W.Frag} {mg : Str → Option Value} {base : Heap} {T : List (Addr × Str)} {f : Addr} {fd : FuncData}
abbrev N_rows_with_lots : List Str := ["query", "told", "marks", "before", "name", "step", "one"]
theorem sc_rows_with_lots : FnScope N_rows_with_lots ["query", "told"] (defScope s_rows_with_lots) := ⟨rfl, rfl, rfl, by decide +kernel, rfl, by decide +kernel, by decide +kernel⟩
theorem ok_rows_with_lots (B : Bs mg) (D_marks_of : Df P w K mg base "marks_of" 3 ["query", "told"] (sp_marks_of T)) (D_of_step : Df P w K mg base "of_step" 4 ["query", "name", "told", "mark", "before"] (sp_of_step T)) (D_out_of : Df P w K mg base "out_of" 1 ["query"] sp_out) (D_place_of : Df P w K mg base "place_of" 3 ["row"] (sp_given T)) {tb : Addr} (hf : f = He.fAd K ("rows_with_lots", none)) (TB : TabB base mg (He.codeOf K ("rows_with_lots", none)) tb) (hmT : (tb, ("rows_with_lots.<locals>.<lambda>" : Str)) ∈ T) (huT : ∀ p ∈ T, p.1 = tb → p.2 = ("rows_with_lots.<locals>.<lambda>" : Str)) (hg : mg "rows_with_lots" = some (.ref f)) (F : FnP K "rows_with_lots" s_rows_with_lots f fd) : Df P w K mg base "rows_with_lots" 7 ["query", "told"] (sp_rwl T) := by
  refine df_mkC hf hg F sc_rows_with_lots (fun vs H Q E h => ?_) (fun _ _ _ _ _ _ us hl => match us, hl with | [_, _], _ => rfl) (fun cdv hcd A outer s H vs Q E hr h => ?_)
  · obtain ⟨_, _, _, _, _, rfl, _⟩ := h
    rfl
  · obtain ⟨vq, d, q, px, py, rfl, hq, hd, hT, ok, hrow, hal, k⟩ := h
    subst hcd
    refine ⟨_,
      (pss_cons (ps_par (i := 2) (j := 3) (by rfl) sc_rows_with_lots.nd rfl rfl (by decide) rfl rfl (pa_cons (pe_df D_marks_of hr (pa_cons (pv 0) (pa_cons (pv 1) pa_nil))) (pa_cons pe_dnewK pa_nil)) (by rfl))
    (pss_cons (ps_for PassesOwn.never rfl (pi_tupK (K := K) rfl (pe_slice (sl_tupK (K := K) rfl) (pv 0) po_none (po_some (pe_un un_neg pe_int)))) (pg_tupK (n := 2) (K := K) rfl rfl (pgs_cons (pg_name (i := 4) sc_rows_with_lots.nd rfl (by first | exact Or.inl rfl | exact Or.inr rfl)) (pgs_cons (pg_name (i := 5) sc_rows_with_lots.nd rfl (by first | exact Or.inl rfl | exact Or.inr rfl)) pgs_nil)))
    (pss_one (ps_dput (hu_of hr) (pv 3) (pv 4) (pe_df D_of_step hr (pa_cons (pv 0) (pa_cons (pv 4) (pa_cons (pv 1) (pa_cons (pe_dget (hu_of hr) (pv 2) (pv 4) (fun _ _ => rfl)) (pa_cons (pv 3) pa_nil)))))) rfl)))
    (pss_one (ps_ret (pe_sortL (P := P) (w := w) (T := T) (IR := fun _ H v (p : PRw) => Tp H v (prK p) ∧ p.1.ok) (en := lamK) rfl rfl rfl (pa_cons (pe_dget (hu_of hr) (pv 3) (pe_df D_out_of hr (pa_cons (pv 0) pa_nil)) (fun _ _ => rfl)) pa_nil) TB rfl hmT huT rfl (fun _ y hy e => (lam_rwl_nofree y hy e).elim) (fun σ f c => keyfn_lam (N := ["one"]) (fr := []) (js := []) (x := "one") (k := 3) (nscope_by (by decide +kernel)) (fun ok => Caps.made ok (fun y hy e => (lam_rwl_nofree y hy e).elim) (fun y hy => (by cases hy)) rfl) (fun _ _ _ => rfl) hr (by decide) (fun A outer s H E hr => (pe_tup (pa_cons (pe_df D_place_of hr (pa_cons (pe_ix (ix_tupK (K := K) rfl) (pv 0) pe_int (fun _ _ => rfl)) pa_nil)) (pa_cons (pe_ix (ix_tupK (K := K) rfl) (pv 0) pe_int (fun _ _ => rfl)) pa_nil)))) (fun H v p ir => ?lam)) (fun _ _ _ _ _ e r => ⟨Tp.ts e.ts _ _ r.1, r.2⟩) hr.units B.sorted_)))))
      , ?_⟩
    walk_at "rd2"
    · refine ⟨v, rfl, ix_d (i := 0) ir.1 rfl fun x t => ?_⟩
      refine ⟨x, p.1, rfl, t, ir.2, fun v1 H1 e1 t1 => ⟨v, rfl, ?_⟩⟩
      refine ix_d (i := 1) (Tp.ts e1.ts _ _ ir.1) rfl fun y ty => ?_
      intro p1 hp1
      exact ⟨e1.trans (Sm.new hp1), tup_new hp1 (.cons t1 (.cons ty .nil))⟩
    · walk_at "rd2"
      refine ⟨vq, q, d, px, py, rfl, hq, hd, ok.lx, ok.ly, fun ma H1 e1 hma hmk => ?_⟩
      walk_at "rd2"
      intro b hb
      have e2 : Sm T H1 (upd H1 b (.dK [])) := Sm.new hb
      have h2 : DKR LsK (upd H1 b (.dK [])) b [] := ⟨[], upd_same, .nil⟩
      generalize upd H1 b (.dK []) = H2 at e2 h2
      have e12 := e1.trans e2
      refine forT (T := T) q.steps stepK (fun Q' k' => ?_) (fun i σ' H' => (∃ z1 z2 z3, σ' = [some vq, some (.ref d), some (.ref ma), some (.ref b), z1, z2, z3]) ∧ Sm T H1 H' ∧ DKR LsK H' b ((outs q px py).take i)) (fun H' e => ⟨⟨_, _, _, rfl⟩, e2.trans e, DKR.sm (fun _ _ r => lsK_sm e r) e h2⟩) (fun i x s σ' H' N hi ts tx p hN => ?_) fun σ' H' ts p => ?_
      · walk_at "rd2"
        exact sl_d (T := T) (es := q.steps.map stepK) (Tp.ts e12.ts _ _ hq) (by rfl) fun v' H' e t => k' v' H' e t
      · obtain ⟨⟨z1, z2, z3, rfl⟩, e3, dk⟩ := p
        refine gT2 tx fun v1 v2 t1 t2 => ?_
        obtain rfl := t1.text_inv
        walk_at "rd2"
        have hil : i < 3 := (List.getElem?_eq_some_iff.mp hi).1
        obtain ⟨out, ho, hu⟩ : ∃ out, (outs q px py)[i]? = some (s.1, out) ∧ (s.1, ()) ∈ q.units := by
          match i, hi with
          | 0, hi => obtain rfl := Option.some.inj hi; exact ⟨_, rfl, List.mem_cons_self⟩
          | 1, hi => obtain rfl := Option.some.inj hi; exact ⟨_, rfl, List.mem_cons_of_mem _ List.mem_cons_self⟩
          | 2, hi => obtain rfl := Option.some.inj hi; exact ⟨_, rfl, List.mem_cons_of_mem _ (List.mem_cons_of_mem _ List.mem_cons_self)⟩
          | i + 3, hi => exact absurd hil (by omega)
        obtain ⟨mv, gm, m, rfl⟩ := dk_got (n := s.1) (b := ()) (ints_sm e3 hmk) (q.nd : (q.units.map (·.1)).Nodup) hu
        have e13 := e1.trans e3
        refine ⟨ma, rfl, _, gm, ?_⟩
        refine ⟨vq, s.1, d, b, m, q, px, py, i, out, rfl, Tp.ts e13.ts _ _ hq, hd.sm e13, ok, ho, dk, fun v4 H4 e4 l4 => ?_⟩
        have hn' : s.1 ∉ ((outs q px py).take i).map (·.1) := by
          have nd : ((outs q px py).map (·.1)).Nodup := q.nd
          intro hmem
          rw [List.map_take] at hmem
          obtain ⟨j, hj⟩ := List.mem_iff_getElem?.mp hmem
          have hji : j < i := by
            have := (List.getElem?_eq_some_iff.mp hj).1
            rw [List.length_take] at this
            omega
          rw [List.getElem?_take_of_lt hji] at hj
          have e1 : ((outs q px py).map (·.1))[j]? = ((outs q px py).map (·.1))[i]? := by rw [hj, List.getElem?_map, ho]; rfl
          have := (List.getElem?_inj (by show j < 3; omega) nd).mp e1
          omega
        obtain ⟨o, g, dk5, mu⟩ := dk_putL (DKR.sm (fun _ _ r => lsK_sm e4 r) e4 dk) hn' (by rw [List.length_take]; show min i 3 ≤ _; omega) l4
        refine ⟨b, rfl, _, g, hN _ _ (e4.ts.trans (TS.mu mu)) ⟨⟨_, _, _, rfl⟩, (e3.trans e4).mut hb mu, ?_⟩⟩
        rw [List.take_add_one, ho]
        exact dk5
      · obtain ⟨⟨z1, z2, z3, rfl⟩, e3, dk⟩ := p
        have e13 := e1.trans e3
        unfold tRet tSortL
        walk_at "rd2"
        refine ⟨vq, q, rfl, Tp.ts e13.ts _ _ hq, ?_⟩
        have dk3 : DKR LsK H' b (outs q px py) := dk
        obtain ⟨v7, g7, a7, xs7, rfl, h7, t7⟩ := dk_got (n := "j") (b := (prs (qJn q) (rowsL px) (rowsL py)).map prK) dk3 (q.nd : ((outs q px py).map (·.1)).Nodup) (List.mem_cons_of_mem _ (List.mem_cons_of_mem _ List.mem_cons_self))
        have hlen : (prs (qJn q) (rowsL px) (rowsL py)).length ≤ 1000 := by
          have h1 := prs_len (qJn q) (rowsL px) (rowsL py)
          have h2 : (rowsL px).length * (rowsL py).length ≤ 20 * 20 := Nat.mul_le_mul ok.rows.ll ok.rows.lr
          omega
        refine ⟨b, rfl, _, g7, e13.2 hT, xs7, .inl ⟨a7, rfl, h7⟩, prs (qJn q) (rowsL px) (rowsL py), ?_, by omega, hal, .inl fun d' hd' => ?_, fun p hp => ?_, fun p H4 ys e4 hp pr => ?_⟩
        · have key : ∀ {xs : List V} {ps : List PRw}, (∀ p ∈ ps, p.1.ok) → Paired (fun v p => Tp H' v (prK p)) xs ps → Paired (fun v (p : PRw) => Tp H' v (prK p) ∧ p.1.ok) xs ps := by
            intro xs ps hok h
            induction h with
            | nil => exact .nil
            | cons r _ ih => exact .cons ⟨r, hok _ List.mem_cons_self⟩ (ih fun p hp => hok p (List.mem_cons_of_mem _ hp))
          exact key hrow (tps_pr t7)
        · obtain ⟨p, _, rfl⟩ := List.mem_map.mp hd'
          exact ⟨_, _, rfl⟩
        · rw [depth_data]
          have h1 := depth_given (hrow p hp).1
          show max (givenK p.1).depth (max (NestedKey.tup [.tup (plD "x" p.2.1), .tup (plD "y" p.2.2)]).depth 0) + 1 ≤ 50
          have h2 : (NestedKey.tup [.tup (plD "x" p.2.1), .tup (plD "y" p.2.2)]).depth ≤ 2 := by show 2 ≤ 2; exact Nat.le_refl _
          omega
        · refine k (.ref p) _ ((e13.trans e4).trans (Sm.new hp)) ⟨p, ys, rfl, upd_same, ?_⟩
          have e5 : Sm T H4 (upd H4 p (.lst ys)) := Sm.new hp
          have key : ∀ {xs : List V} {ps : List PRw}, Paired (fun v (p : PRw) => Tp H4 v (prK p) ∧ p.1.ok) xs ps → Tps (upd H4 p (.lst ys)) xs (ps.map prK) := by
            intro xs ps h
            induction h with
            | nil => exact .nil
            | cons r _ ih => exact .cons (Tp.ts e5.ts _ _ r.1) ih
          exact key pr
abbrev N_meaning : List Str := ["query", "told", "row", "lot"]
theorem sc_meaning : FnScope N_meaning ["query", "told"] (defScope s_meaning) := ⟨rfl, rfl, rfl, by decide +kernel, rfl, by decide +kernel, by decide +kernel⟩
theorem ok_meaning (B : Bs mg) (D_rows_with_lots : Df P w K mg base "rows_with_lots" 7 ["query", "told"] (sp_rwl T)) (D_bag_of : Df P w K mg base "bag_of" 1 ["rows"] (sp_bag P w T)) (hg : mg "meaning" = some (.ref f)) (F : FnP K "meaning" s_meaning f fd) : Df P w K mg base "meaning" 8 ["query", "told"] (sp_meaning P w T) := by
  refine df_mk hg F sc_meaning (fun vs H Q E h => ?_) (fun _ _ _ _ _ _ us hl => match us, hl with | [_, _], _ => rfl) (fun cdv A outer s H vs Q E hr h => ?_)
  · obtain ⟨_, _, _, _, _, rfl, _⟩ := h
    rfl
  · obtain ⟨vq, d, q, px, py, rfl, hq, hd, hT, ok, hrow, hal, k⟩ := h
    refine ⟨_,
      (pss_one (ps_ret (pe_df D_bag_of hr (pa_cons (pe_lc (own := [("row", 2), ("lot", 3)]) (by rfl) sc_meaning.nd (pi_listK (K := K) rfl (pe_df D_rows_with_lots hr (pa_cons (pv 0) (pa_cons (pv 1) pa_nil)))) (blkOk_by (N := N_meaning) (sc := defScope s_meaning) (by decide +kernel)) (fun _ _ _ _ _ => (pg_tupK (n := 2) (K := K) rfl rfl (pgs_cons (pg_name (i := 2) sc_meaning.nd rfl (by first | exact Or.inl rfl | exact Or.inr rfl)) (pgs_cons (pg_name (i := 3) sc_meaning.nd rfl (by first | exact Or.inl rfl | exact Or.inr rfl)) pgs_nil)))) (fun _ _ _ _ _ => pts_nil) (fun _ _ _ _ _ => (pv 2))) pa_nil))))
      , ?_⟩
    walk_at "rd2"
    have hlen : (dueP q px py).length ≤ 1000 := by
      unfold dueP
      rw [List.length_mergeSort]
      have h1 := prs_len (qJn q) (rowsL px) (rowsL py)
      have h2 : (rowsL px).length * (rowsL py).length ≤ 20 * 20 := Nat.mul_le_mul ok.rows.ll ok.rows.lr
      omega
    have hok : ∀ p ∈ dueP q px py, p.1.ok := fun p hp => hrow p ((List.mergeSort_perm _ _).mem_iff.mp hp)
    refine lcL (T := T) (dueP q px py) (fun H v p => Tp H v (prK p)) (fun _ => Tp) (fun p => some p.1.k) (fun Q' k' => ?_) (by omega) (fun _ _ _ _ e t => Tp.ts e.ts _ _ t) r_tp (fun D i x p H1 ha1 e tx hD Qy Qn hy hn => ?_) (fun D H1 ys e hD pr => ?_)
    · walk_at "rd2"
      refine ⟨vq, d, q, px, py, rfl, hq, hd, hT, ok, hrow, hal, fun v' H' e l => ?_⟩
      obtain ⟨a, xs, rfl, ha, hxs⟩ := l
      exact k' a xs H' e ha (tps_pr hxs)
    · refine gT2 tx fun v1 v2 t1 t2 => ?_
      walk_at "rd2"
      exact hy v1 _ H1 rfl (Sm.refl _ _) t1
    · rw [fm_map] at pr
      refine ⟨D, ys, _, rfl, hD, Tps.of pr, fun k hk => ?_, by rw [List.length_map]; omega, fun d' H2 e2 _ dk => k d' H2 (e.trans e2) dk⟩
      obtain ⟨p, hp, rfl⟩ := List.mem_map.mp hk
      refine ⟨⟨_, rfl⟩, ?_⟩
      have h2 := depth_atoms (hok p hp).1
      show max 0 (max 0 (max (NestedKey.depthAll p.1.vs + 1) 0)) + 1 ≤ 8
      omega
abbrev N_whole : List Str := ["query", "told", "ended", "name", "parts", "part"]
theorem sc_whole : FnScope N_whole ["query", "told"] (defScope s_whole) := ⟨rfl, rfl, rfl, by decide +kernel, rfl, by decide +kernel, by decide +kernel⟩
theorem ok_whole (B : Bs mg) (D_meaning : Df P w K mg base "meaning" 8 ["query", "told"] (sp_meaning P w T)) (hg : mg "whole" = some (.ref f)) (F : FnP K "whole" s_whole f fd) : Df P w K mg base "whole" 9 ["query", "told"] (sp_whole P w T) := by
  refine df_mk hg F sc_whole (fun vs H Q E h => ?_) (fun _ _ _ _ _ _ us hl => match us, hl with | [_, _], _ => rfl) (fun cdv A outer s H vs Q E hr h => ?_)
  · obtain ⟨_, _, _, _, _, rfl, _⟩ := h
    rfl
  · obtain ⟨vq, d, q, px, py, rfl, hq, hd, hT, ok, hrow, hal, ⟨lx, ly⟩, k⟩ := h
    refine ⟨_,
      (pss_cons (ps_lock (ps_setDc (i := 2) (own := [("name", 3), ("parts", 4)]) (by rfl) sc_whole.nd rfl rfl (swD_true rfl rfl rfl (by decide +kernel)) (pi_items (pv 1)) (blkOk_by (N := N_whole) (sc := defScope s_whole) (by decide +kernel)) (fun _ _ _ _ _ => (pg_tupK (n := 2) (K := K) rfl rfl (pgs_cons (pg_name (i := 3) sc_whole.nd rfl (by first | exact Or.inl rfl | exact Or.inr rfl)) (pgs_cons (pg_name (i := 4) sc_whole.nd rfl (by first | exact Or.inl rfl | exact Or.inr rfl)) pgs_nil)))) (fun _ _ _ _ _ => pts_nil) (fun _ _ _ _ _ => (pv 3)) (fun _ _ _ _ _ => (pe_callTy (tupOfK (K := K) rfl) (by rfl) B.tuple_ (by decide +kernel) (pa_cons (pe_lc (own := [("part", 5)]) (by rfl) sc_whole.nd (pi_tupK (K := K) rfl (pv 4)) (blkOk_by (N := N_whole) (sc := (relS _ (defScope s_whole))) (by decide +kernel)) (fun _ _ _ _ _ => (pg_name (i := 5) sc_whole.nd rfl (by first | exact Or.inl rfl | exact Or.inr rfl))) (fun _ _ _ _ _ => pts_nil) (fun _ _ _ _ _ => (pe_tup (pa_starK (K := K) rfl (pv 5) (pa_cons (pe_tup (pa_cons pe_str (pa_cons (pe_gi B.END_meaning) pa_nil))) pa_nil))))) pa_nil)))))
    (pss_one (ps_ret (pe_df D_meaning hr (pa_cons (pv 0) (pa_cons (pv 2) pa_nil))))))
      , ?_⟩
    walk_at "rd2"
    obtain ⟨kvs, hkv, pr⟩ := hd
    let m : En := .mark 1000000000
    refine ⟨d, _, hkv, True.intro, fun od => ?_⟩
    have hk2 : kvs.map (·.1) = ([(Sum.inr "x", px ++ [m]), (Sum.inr "y", py ++ [m])] : List (Key × List En)).map (·.1) := by
      have key : ∀ {kvs : List (Key × V)} {ps : List (Str × List En)}, Paired (KR PartV H) kvs ps → kvs.map (·.1) = ps.map fun p => (Sum.inr p.1 : Key) := by
        intro kvs ps h
        induction h with
        | nil => rfl
        | cons r _ ih => rw [List.map_cons, List.map_cons, ih, r.1]
      exact key pr
    have hk3 : kvs.length = 2 := Paired.length pr
    refine dcI (T := T) (od := od) PartV ([(Sum.inr "x", px ++ [m]), (Sum.inr "y", py ++ [m])] : List (Key × List En)) hkv (fun Q' H' h q' => ?_) hk2 (by show ([Sum.inr "x", Sum.inr "y"] : List Key).Nodup; decide +kernel) (by omega) (fun D H H' v b xb r => Tp.ts xb.1 _ _ r) (fun H v b h r => Tp.ts (unlock_ts h) _ _ r) (fun i p k1 v1 b1 H1 hi hbi ts hp Qy Qn hy => ?_) fun D H' ys e1 prs' hD hDn => ?_
    · walk_at "rd2"
      exact q'
    · obtain ⟨pp, hpp, ek, tv⟩ := Paired.at_ pr hi
      have ek : k1 = Sum.inr pp.1 := ek
      subst ek
      have eb : b1 = pp.2 ++ [m] := by
        match i, hpp, hbi with
        | 0, hpp, hbi => obtain rfl := Option.some.inj hpp; exact (Prod.mk.inj (Option.some.inj hbi)).2.symm
        | 1, hpp, hbi => obtain rfl := Option.some.inj hpp; exact (Prod.mk.inj (Option.some.inj hbi)).2.symm
        | i + 2, hpp, _ => exact absurd (show (none : Option (Str × List En)) = some pp from hpp) (by simp)
      subst eb
      refine gP hp ?_
      walk_at "rd2"
      refine lcT (T := T) [partK pp.2] id (fun _ => Tp) (fun _ => some (partK (pp.2 ++ [m]))) (fun Q' k' => ?_) (by show 1 ≤ 100000; decide) r_tp (fun D j y d' H3 ha1 e3 ty hD Qy' Qn' hy' hnn => ?_) (fun D H3 ys e3 hD pr3 => ?_)
      · walk_at "rd2"
        exact k' v1 _ (Sm.refl _ _) (Tp.ts ts _ _ tv)
      · obtain rfl : d' = partK pp.2 := List.mem_singleton.mp (List.mem_of_getElem? ha1)
        walk_at "rd2"
        obtain ⟨b, zs, rfl, hr, hz⟩ := Tp.tup_inv (ds := pp.2.map En.k) ty
        refine ⟨b, rfl, zs, .inl (.inl hr), ?_⟩
        intro q1 hq1
        have e4 : Sm T H3 (upd H3 q1 (.tup [V.str "mark", .int 1000000000])) := Sm.new hq1
        have t4 : Tp (upd H3 q1 (.tup [V.str "mark", .int 1000000000])) (.ref q1) m.k := tup_new hq1 (.cons (.str _) (.cons (.int _) .nil))
        generalize upd H3 q1 (.tup [V.str "mark", .int 1000000000]) = H4 at e4 t4
        have lz : zs.length ≤ 900 := by
          rw [hz.length, List.length_map]
          match i, hpp with
          | 0, hpp => obtain rfl := Option.some.inj hpp; exact lx
          | 1, hpp => obtain rfl := Option.some.inj hpp; exact ly
          | i + 2, hpp => exact absurd (show (none : Option (Str × List En)) = some pp from hpp) (by simp)
        refine ⟨sz_le' (by rw [List.length_append, List.length_singleton]; omega), ?_⟩
        refine tup_d (T := T) ((Tps.ts e4.ts _ _ hz).append (.cons t4 .nil)) fun v5 H5 e5 t5 => hy' v5 _ H5 rfl (e4.trans e5) ?_
        unfold partK
        rw [List.map_append]
        exact t5
      · exact tuple_d (T := T) hD (Tps.of pr3) fun v4 H4 e4 t4 => hy v4 H4 (e3.trans e4) t4
    · walk_at "rd2"
      have tD : Told H' D (px ++ [m]) (py ++ [m]) := by
        refine ⟨ys, hD, ?_⟩
        have key : ∀ {ys : List (Key × V)} {ps : List (Str × List En)}, Paired (fun (p : Key × V) (q : Key × List En) => p.1 = q.1 ∧ PartV H' p.2 q.2) ys (ps.map fun p => ((Sum.inr p.1 : Key), p.2)) → Paired (KR PartV H') ys ps := by
          intro ys ps h
          induction ps generalizing ys with
          | nil => cases h; exact .nil
          | cons p ps ih => cases h with
            | cons r t => exact .cons r (ih t)
        exact key (ps := [("x", px ++ [m]), ("y", py ++ [m])]) prs'
      have ok' : QOk q (px ++ [m]) (py ++ [m]) := ⟨by rw [rowsL_mark, rowsL_mark]; exact ok.rows, lateGo_mark _ _ _ ok.nx, lateGo_mark _ _ _ ok.ny, by rw [List.length_append, List.length_singleton]; omega, by rw [List.length_append, List.length_singleton]; omega⟩
      refine ⟨vq, D, q, px ++ [m], py ++ [m], rfl, Tp.ts e1.ts _ _ hq, tD, e1.2 hT, ok', by rw [rowsL_mark, rowsL_mark]; exact hrow, by rw [rowsL_mark, rowsL_mark]; exact hal, fun a H2 e2 dk => k a H2 (e1.trans e2) ?_⟩
      unfold dueP at dk ⊢
      rw [rowsL_mark, rowsL_mark] at dk
      exact dk
end K67
end
/-! ## K67J1 -/
section
set_option maxHeartbeats 4000000
/-! K67J1: the places of a join, its columns, what a row is -/
namespace K67
open PySem PySem.Spec PyProof.Rows L2 LamX
local macro_rules | `(tactic| walk_at "sm") => `(tactic| first | assumption | exact Sm.refl _ _ | (refine Sm.trans ?_ (by assumption); walk_at "sm"))
local macro_rules | `(tactic| walk_at "ts") => `(tactic| first | assumption | exact TS.refl _ | (refine TS.trans ?_ (by assumption); walk_at "ts") | (refine TS.trans ?_ (Sm.ts (by assumption)); walk_at "ts"))
local macro_rules | `(tactic| walk_at "tp") => `(tactic| first | assumption | exact Tp.int _ | exact Tp.str _ | exact Tp.non | (refine Tp.ts (H := ?_) ?_ _ _ (by assumption); walk_at "ts"))
local macro_rules | `(tactic| walk_at "tps") => `(tactic| first | assumption | exact Tps.nil | (refine Tps.cons ?_ ?_; · walk_at "tp"; · walk_at "tps") | (refine Tps.ts (H := ?_) ?_ _ _ (by assumption); walk_at "ts"))
local macro_rules | `(tactic| walk_at "rd") => `(tactic| try simp only [rMax2, and_assoc, tYes, tSeq, tIfS, tRet, tNext, tTest, tB, tOp, tUn, tVar, tC, tTup, tLst, tCons, tNil, tIf, tCB, tCall, tBM, tBM0, tAsg, gName, gCons, gNil, gSub, tDrop, tPar, tPar3, tAug, tAnd, tOr, tNot, tAndV, tOrV, tNotV, tChain, tSl, tPart, tNoPart, rI0, rI, rU, rEq, rNe, L2.start, wipe, sz0, sz1, sz2, sz3, sz4, sz5, sz6, List.map_cons, List.map_nil, List.length_cons, List.length_nil, List.cons_append, List.nil_append, List.append_nil, List.getElem?_cons_zero, List.getElem?_cons_succ, List.set_cons_zero, List.set_cons_succ, List.replicate_zero, List.replicate_succ, Option.some.injEq, V.bl.injEq, V.int.injEq, V.str.injEq, List.cons.injEq, and_true, true_and, exists_eq_left', exists_eq_left, exists_eq', exists_eq, exists_and_left, Nat.reduceSub, Nat.reduceAdd, Nat.reduceLeDiff, decide_true, decide_false, if_true, if_false, Bool.false_eq_true, reduceIte])
local macro_rules | `(tactic| walk_at "rd2") => `(tactic| try simp only [tDGet, sDPut, tDNewK, tNNew, tNGet2, tNSetd, tNGet, sNPut, tTupF, tCKw, tDead, sDead, tDispN, tPairs, StX.tStar, rNeDN, rNeDN2, rMax2, and_assoc, tYes, tSeq, tIfS, tRet, tNext, tTest, tB, tOp, tUn, tVar, tC, tTup, tLst, tCons, tNil, tIf, tCB, tCall, tBM, tBM0, tAsg, gName, gCons, gNil, gSub, tDrop, tPar, tPar3, tAug, tAnd, tOr, tNot, tAndV, tOrV, tNotV, tChain, tSl, tPart, tNoPart, rI0, rI, rU, rEq, rNe, L2.start, wipe, sz0, sz1, sz2, sz3, sz4, sz5, sz6, List.map_cons, List.map_nil, List.length_cons, List.length_nil, List.cons_append, List.nil_append, List.append_nil, List.getElem?_cons_zero, List.getElem?_cons_succ, List.set_cons_zero, List.set_cons_succ, List.replicate_zero, List.replicate_succ, Option.some.injEq, V.bl.injEq, V.int.injEq, V.str.injEq, List.cons.injEq, and_true, true_and, exists_eq_left', exists_eq_left, exists_eq', exists_eq, exists_and_left, Nat.reduceSub, Nat.reduceAdd, Nat.reduceLeDiff, decide_true, decide_false, if_true, if_false, Bool.false_eq_true, reduceIte])

def restIx (q : Qry) : List Nat := (List.range q.R.length).filterMap fun i => q.R[i]?.bind fun c => if c.1 ∈ q.keys then none else some i
def joinJ (q : Qry) : Jn := ⟨q.keys.map (plc (colNames q.L)), q.keys.map (plc (colNames q.R)), restIx q, q.back, q.ahead⟩
section
variable (P : Program) (w : World) (T : List (Addr × Str))
def sp_join_of : Sp := fun vs H Q _ => ∃ (vl vr vk : V) (q : Qry), vs = [vl, vr, vk, .int q.back, .int q.ahead] ∧ Tp H vl (colsK q.L) ∧ Tp H vr (colsK q.R) ∧ Tp H vk (.tup (txts q.keys)) ∧ q.ok ∧ (∀ n ∈ q.keys, n ∈ colNames q.L) ∧ (∀ n ∈ q.keys, n ∈ colNames q.R) ∧ ∀ v' H', Sm T H H' → Tp H' v' (joinJ q).k → Q v' H'
def sp_joined : Sp := fun vs H Q _ => ∃ (vl vr vk : V) (q : Qry), vs = [vl, vr, vk] ∧ Tp H vl (colsK q.L) ∧ Tp H vr (colsK q.R) ∧ Tp H vk (.tup (txts q.keys)) ∧ q.ok ∧ ∀ v' H', Sm T H H' → Tp H' v' (colsK (joinCols q)) → Q v' H'
end
variable {P : Program} {w : World} {K : PySem.W.Frag} {mg : Str → Option Value} {base : Heap} {T : List (Addr × Str)} {f : Addr} {fd : FuncData}
abbrev N_joined_columns : List Str := ["left", "right", "keys", "column"]
theorem sc_joined_columns : FnScope N_joined_columns ["left", "right", "keys"] (defScope s_joined_columns) := ⟨rfl, rfl, rfl, by decide +kernel, rfl, by decide +kernel, by decide +kernel⟩
theorem ok_joined_columns (B : Bs mg) (hg : mg "joined_columns" = some (.ref f)) (F : FnP K "joined_columns" s_joined_columns f fd) : Df P w K mg base "joined_columns" 1 ["left", "right", "keys"] (sp_joined T) := by
  refine df_mk hg F sc_joined_columns (fun vs H Q E h => ?_) (fun _ _ _ _ _ _ us hl => match us, hl with | [_, _, _], _ => rfl) (fun cdv A outer s H vs Q E hr h => ?_)
  · obtain ⟨_, _, _, _, rfl, _⟩ := h
    rfl
  · obtain ⟨vl, vr, vk, q, rfl, hl, hr', hk, hok, k⟩ := h
    refine ⟨_,
      (pss_one (ps_ret (pe_op (op_catK (K := K) rfl) (pe_callTy (tupOfK (K := K) rfl) (by rfl) B.tuple_ (by decide +kernel) (pa_cons (pv 0) pa_nil)) (pe_callTy (tupOfK (K := K) rfl) (by rfl) B.tuple_ (by decide +kernel) (pa_cons (pe_lc (own := [("column", 3)]) (by rfl) sc_joined_columns.nd (pi_tupK (K := K) rfl (pv 1)) (blkOk_by (N := N_joined_columns) (sc := defScope s_joined_columns) (by decide +kernel)) (fun _ _ _ _ _ => (pg_name (i := 3) sc_joined_columns.nd rfl (by first | exact Or.inl rfl | exact Or.inr rfl))) (fun _ _ _ _ _ => (pts_one (pt_cmpR (op_notInK (K := K) rfl) (pe_ix (ix_tupK (K := K) rfl) (pv 3) pe_int (fun _ _ => rfl)) (pv 2) (by with_unfolding_all rfl)))) (fun _ _ _ _ _ => (pv 3))) pa_nil)))))
      , ?_⟩
    walk_at "rd2"
    refine tuple_t hl fun v1 t1 => ?_
    refine lcT (T := T) q.R colK (fun _ => Tp) (fun c => if c.1 ∈ q.keys then none else some (colK c)) (fun Q' k' => ?_) (by have := hok.r; omega) r_tp (fun D i x c H2 ha1 e tx hD Qy Qn hy hn => ?_) (fun D H2 ys e hD pr => ?_)
    · walk_at "rd2"
      exact k' _ _ (Sm.refl _ _) hr'
    · walk_at "rd2"
      refine ix_d (i := 0) tx rfl fun y ty => ?_
      refine in_t ty rfl (Tp.ts e.ts _ _ hk) (txts_atoms _) ⟨!decide (c.1 ∈ q.keys), by unfold txts; simp, ?_⟩
      by_cases hc : c.1 ∈ q.keys
      · rw [decide_eq_true hc]
        exact ifF rfl (hn H2 (if_pos hc) (Sm.refl _ _))
      · rw [decide_eq_false hc]
        exact ifT rfl (hy x _ H2 (if_neg hc) (Sm.refl _ _) tx)
    · walk_at "rd2"
      refine tuple_d (T := T) hD (Tps.of pr) fun v3 H3 e3 t3 => ?_
      have e13 := e.trans e3
      refine cat_d (T := T) (Tp.ts e13.ts _ _ t1) t3 ?_ fun v4 H4 e4 t4 => k v4 H4 (e13.trans e4) ?_
      · have h1 := hok.l
        have h2 := List.length_filterMap_le (fun c : Col => if c.1 ∈ q.keys then none else some (colK c)) q.R
        have h3 := hok.r
        rw [List.length_map]
        omega
      · have e5 : q.L.map colK ++ q.R.filterMap (fun c => if c.1 ∈ q.keys then none else some (colK c)) = (joinCols q).map colK := by
          unfold joinCols
          rw [List.map_append]
          congr 1
          generalize q.R = l
          induction l with
          | nil => rfl
          | cons c l ih =>
            by_cases hc : c.1 ∈ q.keys
            · rw [List.filterMap_cons, if_pos hc, ih, List.filter_cons]; simp [hc]
            · rw [List.filterMap_cons, if_neg hc, ih, List.filter_cons]; simp [hc]
        rw [e5] at t4
        exact t4
abbrev N_join_of : List Str := ["left", "right", "keys", "back", "ahead", "one", "other", "rest", "name", "kind", "place"]
theorem sc_join_of : FnScope N_join_of ["left", "right", "keys", "back", "ahead"] (defScope s_join_of) := ⟨rfl, rfl, rfl, by decide +kernel, rfl, by decide +kernel, by decide +kernel⟩
theorem ok_join_of (B : Bs mg) (hg : mg "join_of" = some (.ref f)) (F : FnP K "join_of" s_join_of f fd) : Df P w K mg base "join_of" 1 ["left", "right", "keys", "back", "ahead"] (sp_join_of T) := by
  refine df_mk hg F sc_join_of (fun vs H Q E h => ?_) (fun _ _ _ _ _ _ us hl => match us, hl with | [_, _, _, _, _], _ => rfl) (fun cdv A outer s H vs Q E hr h => ?_)
  · obtain ⟨_, _, _, _, rfl, _⟩ := h
    rfl
  · obtain ⟨vl, vr, vk, q, rfl, hl, hr', hk, hok, kl, kr, k⟩ := h
    refine ⟨_,
      (pss_cons (ps_asg (pe_tup (pa_cons (pe_lc (own := [("name", 8), ("kind", 9)]) (by rfl) sc_join_of.nd (pi_tupK (K := K) rfl (pv 0)) (blkOk_by (N := N_join_of) (sc := defScope s_join_of) (by decide +kernel)) (fun _ _ _ _ _ => (pg_tupK (n := 2) (K := K) rfl rfl (pgs_cons (pg_name (i := 8) sc_join_of.nd rfl (by first | exact Or.inl rfl | exact Or.inr rfl)) (pgs_cons (pg_name (i := 9) sc_join_of.nd rfl (by first | exact Or.inl rfl | exact Or.inr rfl)) pgs_nil)))) (fun _ _ _ _ _ => pts_nil) (fun _ _ _ _ _ => (pv 8))) (pa_cons (pe_lc (own := [("name", 8), ("kind", 9)]) (by rfl) sc_join_of.nd (pi_tupK (K := K) rfl (pv 1)) (blkOk_by (N := N_join_of) (sc := defScope s_join_of) (by decide +kernel)) (fun _ _ _ _ _ => (pg_tupK (n := 2) (K := K) rfl rfl (pgs_cons (pg_name (i := 8) sc_join_of.nd rfl (by first | exact Or.inl rfl | exact Or.inr rfl)) (pgs_cons (pg_name (i := 9) sc_join_of.nd rfl (by first | exact Or.inl rfl | exact Or.inr rfl)) pgs_nil)))) (fun _ _ _ _ _ => pts_nil) (fun _ _ _ _ _ => (pv 8))) pa_nil))) (pg_tupK (n := 2) (K := K) rfl rfl (pgs_cons (pg_name (i := 5) sc_join_of.nd rfl (by first | exact Or.inl rfl | exact Or.inr rfl)) (pgs_cons (pg_name (i := 6) sc_join_of.nd rfl (by first | exact Or.inl rfl | exact Or.inr rfl)) pgs_nil))))
    (pss_cons (ps_set (i := 7) sc_join_of.nd rfl (by first | exact Or.inl rfl | exact Or.inr rfl) (pe_callTy (tupOfK (K := K) rfl) (by rfl) B.tuple_ (by decide +kernel) (pa_cons (pe_lc (own := [("place", 10), ("name", 8)]) (by rfl) sc_join_of.nd (pi_enumK (K := K) rfl (by rfl) B.enumerate_ (pa_cons (pv 6) pa_nil)) (blkOk_by (N := N_join_of) (sc := defScope s_join_of) (by decide +kernel)) (fun _ _ _ _ _ => (pg_tupK (n := 2) (K := K) rfl rfl (pgs_cons (pg_name (i := 10) sc_join_of.nd rfl (by first | exact Or.inl rfl | exact Or.inr rfl)) (pgs_cons (pg_name (i := 8) sc_join_of.nd rfl (by first | exact Or.inl rfl | exact Or.inr rfl)) pgs_nil)))) (fun _ _ _ _ _ => (pts_one (pt_cmpR (op_notInK (K := K) rfl) (pv 8) (pv 2) (by with_unfolding_all rfl)))) (fun _ _ _ _ _ => (pv 10))) pa_nil)))
    (pss_one (ps_ret (pe_tup (pa_cons (pe_callTy (tupOfK (K := K) rfl) (by rfl) B.tuple_ (by decide +kernel) (pa_cons (pe_lc (own := [("name", 8)]) (by rfl) sc_join_of.nd (pi_tupK (K := K) rfl (pv 2)) (blkOk_by (N := N_join_of) (sc := defScope s_join_of) (by decide +kernel)) (fun _ _ _ _ _ => (pg_name (i := 8) sc_join_of.nd rfl (by first | exact Or.inl rfl | exact Or.inr rfl))) (fun _ _ _ _ _ => pts_nil) (fun _ _ _ _ _ => (pe_bmK (K := K) rfl PySem.F.plainAttrs_list PySem.F.slot_list_index PySem.F.type_list_index (indexK (K := K) rfl) (pv 5) (pa_cons (pv 8) pa_nil)))) pa_nil)) (pa_cons (pe_callTy (tupOfK (K := K) rfl) (by rfl) B.tuple_ (by decide +kernel) (pa_cons (pe_lc (own := [("name", 8)]) (by rfl) sc_join_of.nd (pi_tupK (K := K) rfl (pv 2)) (blkOk_by (N := N_join_of) (sc := defScope s_join_of) (by decide +kernel)) (fun _ _ _ _ _ => (pg_name (i := 8) sc_join_of.nd rfl (by first | exact Or.inl rfl | exact Or.inr rfl))) (fun _ _ _ _ _ => pts_nil) (fun _ _ _ _ _ => (pe_bmK (K := K) rfl PySem.F.plainAttrs_list PySem.F.slot_list_index PySem.F.type_list_index (indexK (K := K) rfl) (pv 6) (pa_cons (pv 8) pa_nil)))) pa_nil)) (pa_cons (pv 7) (pa_cons (pv 3) (pa_cons (pv 4) pa_nil))))))))))
      , ?_⟩
    walk_at "rd2"
    have epl : ∀ cs : List Col, cs.map (fun c => NestedKey.text c.1) = txts (colNames cs) := fun cs => by unfold txts colNames; rw [List.map_map]; rfl
    refine lcT (T := T) q.L colK (fun _ => Tp) (fun c => some (.text c.1)) (fun Q' k' => ?_) (by have := hok.l; omega) r_tp (fun D i x c H1 ha1 e tx hD Qy Qn hy hnn => ?_) (fun D1 H1 ys1 e1 hD1 pr1 => ?_)
    · walk_at "rd2"
      exact k' _ _ (Sm.refl _ _) hl
    · refine gT2 tx fun v1 v2 t1 t2 => ?_
      walk_at "rd2"
      exact hy v1 _ H1 rfl (Sm.refl _ _) t1
    rw [fm_map, epl] at pr1
    have tn1 := Tps.of pr1
    refine lcT (T := T) q.R colK (fun _ => Tp) (fun c => some (.text c.1)) (fun Q' k' => ?_) (by have := hok.r; omega) r_tp (fun D i x c H2 ha1 e tx hD Qy Qn hy hnn => ?_) (fun D2 H2 ys2 e2 hD2 pr2 => ?_)
    · walk_at "rd2"
      exact k' _ _ (Sm.refl _ _) (Tp.ts e1.ts _ _ hr')
    · refine gT2 tx fun v1 v2 t1 t2 => ?_
      walk_at "rd2"
      exact hy v1 _ H2 rfl (Sm.refl _ _) t1
    rw [fm_map, epl] at pr2
    have tn2 := Tps.of pr2
    intro p hp
    have e3 : Sm T H2 (upd H2 p (.tup [V.ref D1, V.ref D2])) := Sm.new hp
    refine gP upd_same ?_
    generalize upd H2 p (.tup [V.ref D1, V.ref D2]) = H3 at e3
    have hD1' := (e2.trans e3).lst hD1
    have hD2' := e3.lst hD2
    have tn1' := Tps.ts (e2.trans e3).ts _ _ tn1
    have tn2' := Tps.ts e3.ts _ _ tn2
    have hk3 := Tp.ts ((e1.trans e2).trans e3).ts _ _ hk
    have e03 := (e1.trans e2).trans e3
    walk_at "rd2"
    refine lcE (T := T) q.R (fun H v (c : Col) => Tp H v (.text c.1)) (fun _ _ v (n : Nat) => v = .int (n : Int)) (fun i c => if c.1 ∈ q.keys then none else some i) (fun Q' k' => ?_) (by have := hok.r; omega) (fun _ _ _ _ e t => Tp.ts e.ts _ _ t) (fun _ _ _ _ _ _ h => h) (fun D i p2 x c H4 ha1 e tx hp2 hD Qy Qn hy hnn => ?_) (fun D4 H4 ys4 e4 hD4 pr4 => ?_)
    · walk_at "rd2"
      refine k' D2 ys2 _ (Sm.refl _ _) hD2' ?_
      have := tps_pr (en := fun c : Col => NestedKey.text c.1) (by rw [epl]; exact tn2')
      exact this
    · refine gP hp2 ?_
      walk_at "rd2"
      refine in_t tx rfl (Tp.ts e.ts _ _ hk3) (txts_atoms _) ⟨!decide (c.1 ∈ q.keys), by unfold txts; simp, ?_⟩
      by_cases hc : c.1 ∈ q.keys
      · rw [decide_eq_true hc]
        exact ifF rfl (hnn H4 (if_pos hc) (Sm.refl _ _))
      · rw [decide_eq_false hc]
        exact ifT rfl (hy _ i H4 (if_neg hc) (Sm.refl _ _) rfl)
    have t4 : Tps H4 ys4 (nums (restIx q)) := by
      have key : ∀ {ys : List V} {ns : List Nat}, Paired (fun v (n : Nat) => v = V.int (n : Int)) ys ns → Tps H4 ys (nums ns) := by
        intro ys ns h
        induction h with
        | nil => exact .nil
        | cons r _ ih => rw [r]; exact .cons (.int _) ih
      exact key pr4
    walk_at "rd2"
    refine tuple_d (T := T) hD4 t4 fun v5 H5 e5 t5 => ?_
    walk_at "rd2"
    have e35 := e4.trans e5
    have npr : ∀ {H6 : Hp} {ys : List V} {ns : List Nat}, Paired (fun v (n : Nat) => v = V.int (n : Int)) ys ns → Tps H6 ys (nums ns) := by
      intro H6 ys ns h
      induction h with
      | nil => exact .nil
      | cons r _ ih => rw [r]; exact .cons (.int _) ih
    refine lcT (T := T) q.keys .text (fun _ _ v (n : Nat) => v = .int (n : Int)) (fun n => some (plc (colNames q.L) n)) (fun Q' k' => ?_) (by have := hok.k; omega) (fun _ _ _ _ _ _ h => h) (fun D i x n H6 ha1 e tx hD Qy Qn hy hnn => ?_) (fun D6 H6 ys6 e6 hD6 pr6 => ?_)
    · walk_at "rd2"
      exact k' _ _ (Sm.refl _ _) (Tp.ts e35.ts _ _ hk3)
    · walk_at "rd2"
      have e36 := e35.trans e
      refine ⟨tyl (e36.lst hD1'), ?_⟩
      refine index_l (e36.lst hD1') (Tps.ts e36.ts _ _ tn1') (txts_atoms _) tx rfl (List.mem_map.mpr ⟨n, kl n (List.mem_of_getElem? ha1), rfl⟩) ?_
      exact hy _ _ H6 rfl (Sm.refl _ _) rfl
    rw [fm_map] at pr6
    walk_at "rd2"
    refine tuple_d (T := T) hD6 (npr pr6) fun v7 H7 e7 t7 => ?_
    walk_at "rd2"
    have e57 := e6.trans e7
    refine lcT (T := T) q.keys .text (fun _ _ v (n : Nat) => v = .int (n : Int)) (fun n => some (plc (colNames q.R) n)) (fun Q' k' => ?_) (by have := hok.k; omega) (fun _ _ _ _ _ _ h => h) (fun D i x n H6 ha1 e tx hD Qy Qn hy hnn => ?_) (fun D8 H8 ys8 e8 hD8 pr8 => ?_)
    · walk_at "rd2"
      exact k' _ _ (Sm.refl _ _) (Tp.ts (e35.trans e57).ts _ _ hk3)
    · walk_at "rd2"
      have e36 := (e35.trans e57).trans e
      refine ⟨tyl (e36.lst hD2'), ?_⟩
      refine index_l (e36.lst hD2') (Tps.ts e36.ts _ _ tn2') (txts_atoms _) tx rfl (List.mem_map.mpr ⟨n, kr n (List.mem_of_getElem? ha1), rfl⟩) ?_
      exact hy _ _ H6 rfl (Sm.refl _ _) rfl
    rw [fm_map] at pr8
    walk_at "rd2"
    refine tuple_d (T := T) hD8 (npr pr8) fun v9 H9 e9 t9 => ?_
    walk_at "rd2"
    have e79 := e8.trans e9
    refine tup_d (T := T) (.cons (Tp.ts e79.ts _ _ t7) (.cons t9 (.cons (Tp.ts (e57.trans e79).ts _ _ t5) (.cons (.int _) (.cons (.int _) .nil))))) fun v' H' e' t' => k v' H' (((e03.trans e35).trans (e57.trans e79)).trans e') t'
end K67
end
/-! ## K67J2 -/
section
set_option maxHeartbeats 4000000
/-! K67J2: one side of the state in order -/
namespace K67
open PySem PySem.Spec PyProof.Rows L2 LamX NdefX
local macro_rules | `(tactic| walk_at "sm") => `(tactic| first | assumption | exact Sm.refl _ _ | (refine Sm.trans ?_ (by assumption); walk_at "sm"))
local macro_rules | `(tactic| walk_at "ts") => `(tactic| first | assumption | exact TS.refl _ | (refine TS.trans ?_ (by assumption); walk_at "ts") | (refine TS.trans ?_ (Sm.ts (by assumption)); walk_at "ts"))
local macro_rules | `(tactic| walk_at "tp") => `(tactic| first | assumption | exact Tp.int _ | exact Tp.str _ | exact Tp.non | (refine Tp.ts (H := ?_) ?_ _ _ (by assumption); walk_at "ts"))
local macro_rules | `(tactic| walk_at "tps") => `(tactic| first | assumption | exact Tps.nil | (refine Tps.cons ?_ ?_; · walk_at "tp"; · walk_at "tps") | (refine Tps.ts (H := ?_) ?_ _ _ (by assumption); walk_at "ts"))
local macro_rules | `(tactic| walk_at "rd") => `(tactic| try simp only [rMax2, and_assoc, tYes, tSeq, tIfS, tRet, tNext, tTest, tB, tOp, tUn, tVar, tC, tTup, tLst, tCons, tNil, tIf, tCB, tCall, tBM, tBM0, tAsg, gName, gCons, gNil, gSub, tDrop, tPar, tPar3, tAug, tAnd, tOr, tNot, tAndV, tOrV, tNotV, tChain, tSl, tPart, tNoPart, rI0, rI, rU, rEq, rNe, L2.start, wipe, sz0, sz1, sz2, sz3, sz4, sz5, sz6, List.map_cons, List.map_nil, List.length_cons, List.length_nil, List.cons_append, List.nil_append, List.append_nil, List.getElem?_cons_zero, List.getElem?_cons_succ, List.set_cons_zero, List.set_cons_succ, List.replicate_zero, List.replicate_succ, Option.some.injEq, V.bl.injEq, V.int.injEq, V.str.injEq, List.cons.injEq, and_true, true_and, exists_eq_left', exists_eq_left, exists_eq', exists_eq, exists_and_left, Nat.reduceSub, Nat.reduceAdd, Nat.reduceLeDiff, decide_true, decide_false, if_true, if_false, Bool.false_eq_true, reduceIte])
local macro_rules | `(tactic| walk_at "rd2") => `(tactic| try simp only [tDGet, sDPut, tDNewK, tNNew, tNGet2, tNSetd, tNGet, sNPut, tTupF, tCKw, tDead, sDead, tDispN, tPairs, StX.tStar, rNeDN, rNeDN2, rMax2, and_assoc, tYes, tSeq, tIfS, tRet, tNext, tTest, tB, tOp, tUn, tVar, tC, tTup, tLst, tCons, tNil, tIf, tCB, tCall, tBM, tBM0, tAsg, gName, gCons, gNil, gSub, tDrop, tPar, tPar3, tAug, tAnd, tOr, tNot, tAndV, tOrV, tNotV, tChain, tSl, tPart, tNoPart, rI0, rI, rU, rEq, rNe, L2.start, wipe, sz0, sz1, sz2, sz3, sz4, sz5, sz6, List.map_cons, List.map_nil, List.length_cons, List.length_nil, List.cons_append, List.nil_append, List.append_nil, List.getElem?_cons_zero, List.getElem?_cons_succ, List.set_cons_zero, List.set_cons_succ, List.replicate_zero, List.replicate_succ, Option.some.injEq, V.bl.injEq, V.int.injEq, V.str.injEq, List.cons.injEq, and_true, true_and, exists_eq_left', exists_eq_left, exists_eq', exists_eq, exists_and_left, Nat.reduceSub, Nat.reduceAdd, Nat.reduceLeDiff, decide_true, decide_false, if_true, if_false, Bool.false_eq_true, reduceIte])

abbrev RN := Row × Nat
def prn (p : RN) : NestedKey := .tup [p.1.k, .num (p.2 : Int)]
def RowAt (l : List Nat) (r : Row) : Prop := r.ok ∧ (∀ i ∈ l, i < r.vs.length) ∧ l.length ≤ 100
def lamIR (vj : V) (side : Nat) (j : List NestedKey) (l : List Nat) : L2.St → Hp → V → Row → Prop := fun σ H v r => σ[0]? = some (some vj) ∧ σ[1]? = some (some (.int (side : Int))) ∧ Tp H vj (.tup j) ∧ j[side]? = some (.tup (nums l)) ∧ Tp H v r.k ∧ RowAt l r
theorem lamIR_sm {vj : V} {side : Nat} {j : List NestedKey} {l : List Nat} {T : List (Addr × Str)} {σ : L2.St} {H H' : Hp} {v : V} {r : Row} (e : Sm T H H') (h : lamIR vj side j l σ H v r) : lamIR vj side j l σ H' v r :=
  ⟨h.1, h.2.1, Tp.ts e.ts _ _ h.2.2.1, h.2.2.2.1, Tp.ts e.ts _ _ h.2.2.2.2.1, h.2.2.2.2.2⟩
def freeB (ns sn : List (Str × NameKind)) : Bool := ns.all fun y => match y.2 with
  | .free => (match sn.lookup y.1 with | some .cell => true | some .free => true | _ => false)
  | _ => true
theorem free_by {ns sn : List (Str × NameKind)} (h : freeB ns sn = true) : ∀ y ∈ ns, y.2 = .free → sn.lookup y.1 = some .cell ∨ sn.lookup y.1 = some .free := fun y hy e => by
  have := List.all_eq_true.mp h y hy
  rw [e] at this
  revert this
  cases sn.lookup y.1 with
  | none => exact fun z => (Bool.false_ne_true z).elim
  | some k => cases k <;> first | exact fun _ => .inl rfl | exact fun _ => .inr rfl | exact fun z => (Bool.false_ne_true z).elim
theorem mem_by {fr : List Str} {ns : List (Str × NameKind)} (h : (fr.all fun y => ns.any fun p => decide (p.1 = y) && (match p.2 with | .free => true | _ => false)) = true) : ∀ y ∈ fr, (y, NameKind.free) ∈ ns := fun y hy => by
  obtain ⟨p, hp, e⟩ := List.any_eq_true.mp (List.all_eq_true.mp h y hy)
  obtain ⟨a, b⟩ := p
  rw [Bool.and_eq_true] at e
  obtain ⟨e1, e2⟩ := e
  have e1 : a = y := of_decide_eq_true e1
  subst e1
  cases b <;> first | exact hp | exact (Bool.false_ne_true e2).elim
theorem Row.k_inj {a b : Row} (h : a.k = b.k) : a = b := by
  have e := NestedKey.tup.inj h
  obtain ⟨e1, e⟩ := List.cons.inj e
  obtain ⟨e2, e⟩ := List.cons.inj e
  obtain ⟨e3, _⟩ := List.cons.inj e
  cases a
  cases b
  cases NestedKey.num.inj e1
  cases NestedKey.num.inj e2
  cases NestedKey.tup.inj e3
  rfl
def findR (ls : List RN) (r : Row) : Option RN := ls.find? fun p => decide (p.1 = r)
theorem findR_mem : ∀ {ls : List RN} {p : RN}, (ls.map (·.1)).Nodup → p ∈ ls → findR ls p.1 = some p
  | [], _, _, h => by cases h
  | q :: ls, p, nd, h => by
    rw [List.map_cons, List.nodup_cons] at nd
    unfold findR
    rcases List.mem_cons.mp h with rfl | h
    · rw [List.find?_cons_of_pos (by simp)]
    · rw [List.find?_cons_of_neg (by
        intro z
        exact nd.1 (List.mem_map.mpr ⟨p, h, (of_decide_eq_true z).symm⟩))]
      exact findR_mem nd.2 h
theorem find_all {ls : List RN} (nd : (ls.map (·.1)).Nodup) : (ls.map (·.1)).filterMap (findR ls) = ls := by
  have key : ∀ l : List RN, (∀ p ∈ l, p ∈ ls) → (l.map (·.1)).filterMap (findR ls) = l := by
    intro l
    induction l with
    | nil => intro _; rfl
    | cons p l ih =>
      intro h
      rw [List.map_cons, List.filterMap_cons, findR_mem nd (h p List.mem_cons_self), ih fun q hq => h q (List.mem_cons_of_mem _ hq)]
  exact key ls fun _ h => h
theorem val_row : ∀ {ls : List RN} {p : RN}, (ls.map (·.1)).Nodup → p ∈ ls → valV (ls.map fun p => (p.1.k, V.int (p.2 : Int))) p.1.k = some (.int (p.2 : Int))
  | [], _, _, h => by cases h
  | q :: ls, p, nd, h => by
    rw [List.map_cons, List.nodup_cons] at nd
    rw [List.map_cons]
    rcases List.mem_cons.mp h with rfl | h
    · exact valV_pos rfl
    · rw [valV_neg (fun z => nd.1 (List.mem_map.mpr ⟨p, h, (Row.k_inj z).symm⟩))]
      exact val_row nd.2 h
section
variable (P : Program) (w : World) (T : List (Addr × Str))
def sp_in_order : Sp := fun vs H Q _ => ∃ (vj : V) (side : Nat) (d : Addr) (j : List NestedKey) (l : List Nat) (es : List Ent) (ls : List RN), vs = [vj, .int (side : Int), .ref d] ∧ Tp H vj (.tup j) ∧ j[side]? = some (.tup (nums l)) ∧ Tabs T H ∧ DictE P w H d es ∧ kvsOf es = ls.map (fun p => (p.1.k, V.int (p.2 : Int))) ∧
  (ls.map (·.1)).Nodup ∧ (∀ p ∈ ls, RowAt l p.1) ∧ ls.length ≤ 100 ∧ PySem.W.AllAlike (ls.map fun p => (keptK l p.1).data) ∧ ∀ v' H' (ls' : List RN), Sm T H H' → ls'.Perm ls → PTs H' v' (ls'.map prn) → Q v' H'
end
variable {P : Program} {w : World} {K : PySem.W.Frag} {mg : Str → Option Value} {base : Heap} {T : List (Addr × Str)} {f : Addr} {fd : FuncData}
abbrev N_in_order : List Str := ["join", "side", "found", "row"]
theorem sc_in_order : FnScope N_in_order ["join", "side", "found"] (defScope s_in_order) := ⟨rfl, rfl, rfl, by decide +kernel, rfl, by decide +kernel, by decide +kernel⟩
theorem ok_in_order (B : Bs mg) (D_kept_rank : Df P w K mg base "kept_rank" 3 ["join", "side", "row"] (sp_kept_rank T)) {tb : Addr} (hf : f = He.fAd K ("in_order", none)) (TB : TabB base mg (He.codeOf K ("in_order", none)) tb) (hmT : (tb, ("in_order.<locals>.<lambda>" : Str)) ∈ T) (huT : ∀ p ∈ T, p.1 = tb → p.2 = ("in_order.<locals>.<lambda>" : Str)) (hg : mg "in_order" = some (.ref f)) (F : FnP K "in_order" s_in_order f fd) : Df P w K mg base "in_order" 7 ["join", "side", "found"] (sp_in_order P w T) := by
  refine df_mkC hf hg F sc_in_order (fun vs H Q E h => ?_) (fun _ _ _ _ _ _ us hl => match us, hl with | [_, _, _], _ => rfl) (fun cdv hcd A outer s H vs Q E hr h => ?_)
  · obtain ⟨_, _, _, _, _, _, _, rfl, _⟩ := h
    rfl
  · obtain ⟨vj, side, d, j, l, es, ls, rfl, hj, hs, hT, dE, he, nd, hrow, hlen, hal, k⟩ := h
    subst hcd
    refine ⟨_,
      (pss_one (ps_ret ((pe_callTy (tupOfF (K := K) rfl) (by rfl) B.tuple_ (by decide +kernel) (pa_cons (pe_lc (own := [("row", 3)]) (by rfl) sc_in_order.nd (pi_listK (K := K) rfl (pe_sortL (P := P) (w := w) (T := T) (IR := lamIR vj side j l) (en := keptK l) rfl rfl rfl (pa_cons (pv 2) pa_nil) TB rfl hmT huT rfl (fun ok y hy e => (free_by (sn := (defScope s_in_order).names) (by decide +kernel) y hy e).elim (fun z => ok.has _ (.inl z)) (fun z => ok.has _ (.inr z))) (fun σ f c => keyfn_lam (N := ["row", "join", "side"]) (fr := ["join", "side"]) (js := [0, 1]) (x := "row") (k := 3) (nscope_by (by decide +kernel)) (fun ok => Caps.made ok (free_by (sn := (defScope s_in_order).names) (by decide +kernel)) (mem_by (by decide +kernel)) rfl) (fun _ _ _ => rfl) hr (by decide) (fun A outer s H E hr => (pe_df D_kept_rank hr (pa_cons (pv 1) (pa_cons (pv 2) (pa_cons (pv 0) pa_nil))))) (fun H v p ir => ?lam)) (fun _ _ _ _ _ e r => lamIR_sm e r) hr.units B.sorted_)) (blkOk_by (N := N_in_order) (sc := defScope s_in_order) (by decide +kernel)) (fun _ _ _ _ _ => (pg_name (i := 3) sc_in_order.nd rfl (by first | exact Or.inl rfl | exact Or.inr rfl))) (fun _ _ _ _ _ => pts_nil) (fun _ _ _ _ _ => (pe_tup (pa_cons (pv 3) (pa_cons (pe_nget (P := P) (w := w) rfl rfl (hu9 hr) (pv 2) (pv 3) (fun _ _ => rfl)) pa_nil))))) pa_nil)))))
      , ?_⟩
    · obtain ⟨h0, h1, tj, hjs, tv, hra⟩ := ir
      refine ⟨vj, (by show some (NdefX.slotAt σ 0) = _; unfold NdefX.slotAt; rw [h0]), .int (side : Int), (by show some (NdefX.slotAt σ 1) = _; unfold NdefX.slotAt; rw [h1]), v, rfl, ?_⟩
      exact ⟨vj, v, l, j, side, p, rfl, tj, hjs, tv, hra.1, hra.2.1, hra.2.2, fun v' H' e t => ⟨e, t⟩⟩
    · walk_at "rd2"
      have srt : (ls.map (·.1)).mergeSort (PySem.W.dataLe false fun r => (keptK l r).data) = (ls.map (·.1)).mergeSort (PySem.W.dataLe false fun r => (keptK l r).data) := rfl
      have pm := List.mergeSort_perm (ls.map (·.1)) (PySem.W.dataLe false fun r => (keptK l r).data)
      generalize hso : (ls.map (·.1)).mergeSort (PySem.W.dataLe false fun r => (keptK l r).data) = so at pm
      have hlen2 : so.length ≤ 100 := by rw [pm.length_eq, List.length_map]; exact hlen
      have hsub : ∀ r ∈ so, ∃ p ∈ ls, p.1 = r := fun r hr => by
        obtain ⟨p, hp, e⟩ := List.mem_map.mp (pm.mem_iff.mp hr)
        exact ⟨p, hp, e⟩
      refine lcL (T := T) so (fun H v (r : Row) => Tp H v r.k) (fun _ H v (p : RN) => Tp H v (prn p)) (findR ls) (fun Q' k' => ?_) (by omega) (fun _ _ _ _ e t => Tp.ts e.ts _ _ t) (fun _ _ _ _ _ xb t => Tp.ts xb.1 _ _ t) (fun D i x r H1 ha1 e tx hD Qy Qn hy hnn => ?_) (fun D H1 ys e hD pr => ?_)
      · unfold tSortL
        walk_at "rd2"
        have hkeys : ∀ {es : List Ent} {ls : List RN}, kvsOf es = ls.map (fun p => (p.1.k, V.int (p.2 : Int))) → (∀ e ∈ es, Tp H (.ref e.2.1) e.1 ∧ e.1.depth ≤ 8) → (∀ p ∈ ls, RowAt l p.1) → Paired (lamIR vj side j l [some vj, some (.int (side : Int)), some (.ref d), none] H) (es.map fun e => V.ref e.2.1) (ls.map (·.1)) := by
          intro es ls h hk hr
          induction ls generalizing es with
          | nil =>
            cases es with
            | nil => exact .nil
            | cons e es => cases h
          | cons p ls ih =>
            cases es with
            | nil => cases h
            | cons e es =>
              unfold kvsOf at h
              rw [List.map_cons, List.map_cons] at h
              obtain ⟨h1, h2⟩ := List.cons.inj h
              have ek : e.1 = p.1.k := (Prod.mk.inj h1).1
              refine .cons ⟨rfl, rfl, hj, hs, ek ▸ (hk e List.mem_cons_self).1, hr p List.mem_cons_self⟩ (ih h2 (fun e he => hk e (List.mem_cons_of_mem _ he)) fun p hp => hr p (List.mem_cons_of_mem _ hp))
        refine ⟨hT, _, .inr ⟨d, es, rfl, dE, rfl⟩, ls.map (·.1), hkeys he dE.keys hrow, by rw [List.length_map]; omega, by rw [List.map_map]; exact hal, .inl fun d' hd' => ?_, fun r hr => ?_, fun p H' ys e hp pz => ?_⟩
        · obtain ⟨r, _, rfl⟩ := List.mem_map.mp hd'
          exact ⟨_, _, rfl⟩
        · obtain ⟨p, hp, rfl⟩ := List.mem_map.mp hr
          have ha := (hrow p hp).1.1
          rw [depth_data]
          show max (NestedKey.tup ((pickK l p.1.vs).map rankK)).depth (max 0 (max 0 (max (NestedKey.tup (p.1.vs.map rankK)).depth 0))) + 1 ≤ 50
          have h1 := depth_ranks (pick_atoms (l := l) ha)
          have h2 := depth_ranks ha
          omega
        · rw [hso] at pz
          refine k' p ys _ (e.trans (Sm.new hp)) upd_same (Paired.mapP pz fun _ _ r => Tp.ts (Sm.new (T := T) hp).ts _ _ r.2.2.2.2.1)
      · walk_at "rd2"
        obtain ⟨p, hp, rfl⟩ := hsub r (List.mem_of_getElem? ha1)
        obtain ⟨b, zs, rfl, _, _⟩ := tx.tup_inv
        have hv : valV (kvsOf es) p.1.k = some (.int (p.2 : Int)) := by rw [he]; exact val_row nd hp
        have dp : p.1.k.depth ≤ 8 := by
          have h2 := depth_atoms (hrow p hp).1.1
          show max 0 (max 0 (max (NestedKey.depthAll p.1.vs + 1) 0)) + 1 ≤ 8
          omega
        refine ⟨d, rfl, b, rfl, es, dE.sm e, p.1.k, tx, dp, _, hv, ?_⟩
        exact tup_d (T := T) (.cons tx (.cons (.int _) .nil)) fun v5 H5 e5 t5 => hy v5 p H5 (findR_mem nd hp) e5 t5
      · have pm2 : (so.filterMap (findR ls)).Perm ls := by
          have := pm.filterMap (findR ls)
          rw [find_all nd] at this
          exact this
        have t5 : Tps H1 ys ((so.filterMap (findR ls)).map prn) := by
          have key : ∀ {ys : List V} {ps : List RN}, Paired (fun v p => Tp H1 v (prn p)) ys ps → Tps H1 ys (ps.map prn) := by
            intro ys ps h
            induction h with
            | nil => exact .nil
            | cons r _ ih => exact .cons r ih
          exact key pr
        exact tupleF_d (T := T) hD t5 fun v' H' e' t => k v' H' _ (e.trans e') pm2 t
end K67
end
/-! ## K67J3 -/
section
set_option maxHeartbeats 4000000
/-! K67J3: a row put, a mark -/
namespace K67
open PySem PySem.Spec PyProof.Rows L2 LamX NdefX
local macro_rules | `(tactic| walk_at "sm") => `(tactic| first | assumption | exact Sm.refl _ _ | (refine Sm.trans ?_ (by assumption); walk_at "sm"))
local macro_rules | `(tactic| walk_at "ts") => `(tactic| first | assumption | exact TS.refl _ | (refine TS.trans ?_ (by assumption); walk_at "ts") | (refine TS.trans ?_ (Sm.ts (by assumption)); walk_at "ts"))
local macro_rules | `(tactic| walk_at "tp") => `(tactic| first | assumption | exact Tp.int _ | exact Tp.str _ | exact Tp.non | (refine Tp.ts (H := ?_) ?_ _ _ (by assumption); walk_at "ts"))
local macro_rules | `(tactic| walk_at "tps") => `(tactic| first | assumption | exact Tps.nil | (refine Tps.cons ?_ ?_; · walk_at "tp"; · walk_at "tps") | (refine Tps.ts (H := ?_) ?_ _ _ (by assumption); walk_at "ts"))
local macro_rules | `(tactic| walk_at "rd") => `(tactic| try simp only [rMax2, and_assoc, tYes, tSeq, tIfS, tRet, tNext, tTest, tB, tOp, tUn, tVar, tC, tTup, tLst, tCons, tNil, tIf, tCB, tCall, tBM, tBM0, tAsg, gName, gCons, gNil, gSub, tDrop, tPar, tPar3, tAug, tAnd, tOr, tNot, tAndV, tOrV, tNotV, tChain, tSl, tPart, tNoPart, rI0, rI, rU, rEq, rNe, L2.start, wipe, sz0, sz1, sz2, sz3, sz4, sz5, sz6, List.map_cons, List.map_nil, List.length_cons, List.length_nil, List.cons_append, List.nil_append, List.append_nil, List.getElem?_cons_zero, List.getElem?_cons_succ, List.set_cons_zero, List.set_cons_succ, List.replicate_zero, List.replicate_succ, Option.some.injEq, V.bl.injEq, V.int.injEq, V.str.injEq, List.cons.injEq, and_true, true_and, exists_eq_left', exists_eq_left, exists_eq', exists_eq, exists_and_left, Nat.reduceSub, Nat.reduceAdd, Nat.reduceLeDiff, decide_true, decide_false, if_true, if_false, Bool.false_eq_true, reduceIte])
local macro_rules | `(tactic| walk_at "rd2") => `(tactic| try simp only [tDGet, sDPut, tDNewK, tNNew, tNGet2, tNSetd, tNGet, sNPut, tTupF, tCKw, tDead, sDead, tDispN, tPairs, StX.tStar, rNeDN, rNeDN2, rMax2, and_assoc, tYes, tSeq, tIfS, tRet, tNext, tTest, tB, tOp, tUn, tVar, tC, tTup, tLst, tCons, tNil, tIf, tCB, tCall, tBM, tBM0, tAsg, gName, gCons, gNil, gSub, tDrop, tPar, tPar3, tAug, tAnd, tOr, tNot, tAndV, tOrV, tNotV, tChain, tSl, tPart, tNoPart, rI0, rI, rU, rEq, rNe, L2.start, wipe, sz0, sz1, sz2, sz3, sz4, sz5, sz6, List.map_cons, List.map_nil, List.length_cons, List.length_nil, List.cons_append, List.nil_append, List.append_nil, List.getElem?_cons_zero, List.getElem?_cons_succ, List.set_cons_zero, List.set_cons_succ, List.replicate_zero, List.replicate_succ, Option.some.injEq, V.bl.injEq, V.int.injEq, V.str.injEq, List.cons.injEq, and_true, true_and, exists_eq_left', exists_eq_left, exists_eq', exists_eq, exists_and_left, Nat.reduceSub, Nat.reduceAdd, Nat.reduceLeDiff, decide_true, decide_false, if_true, if_false, Bool.false_eq_true, reduceIte])

/-- the state: a mark and two sides, known to the object -/
def StR (H : Hp) (v : V) (m : Int) (ls rs : List RN) : Prop := ∃ a x1 x2, v = .ref a ∧ Rd H a (.tup [.int m, x1, x2]) ∧ PTs H x1 (ls.map prn) ∧ PTs H x2 (rs.map prn)
theorem StR.sm {T : List (Addr × Str)} {H H' : Hp} {v : V} {m : Int} {ls rs : List RN} (e : Sm T H H') (h : StR H v m ls rs) : StR H' v m ls rs := let ⟨a, x1, x2, h1, h2, h3, h4⟩ := h; ⟨a, x1, x2, h1, e.rd h2, h3.sm e, h4.sm e⟩
def sideOf (s : Nat) (ls rs : List RN) : List RN := if s = 0 then ls else rs
theorem StR.tp {H : Hp} {v : V} {m : Int} {ls rs : List RN} (h : StR H v m ls rs) : Tp H v (.tup [.num m, .tup (ls.map prn), .tup (rs.map prn)]) := let ⟨a, x1, x2, h1, h2, h3, h4⟩ := h; by
  rw [h1]
  exact .tup h2 (.cons (.int _) (.cons h3.tp (.cons h4.tp .nil)))
def expd (ls : List RN) : List Row := ls.flatMap fun p => List.replicate p.2 p.1
abbrev rowIR : Hp → V → Row → Prop := fun H v r => Tp H v r.k ∧ r.ok
theorem rowIR_sm {T : List (Addr × Str)} : ∀ (H H' : Hp) (v : V) (b : Row), Sm T H H' → rowIR H v b → rowIR H' v b := fun _ _ _ _ e r => ⟨Tp.ts e.ts _ _ r.1, r.2⟩
theorem rowIR_given {T : List (Addr × Str)} : ∀ (H : Hp) (v : V) (a : Row) (Q : VK) (E : XK), rowIR H v a → (∀ y H', Sm T H H' → Tp H' y (givenK a) → Q y H') → sp_given T [v] H Q E := fun H v a Q E ir k => ⟨v, a, rfl, ir.1, ir.2, k⟩
section
variable (P : Program) (w : World) (T : List (Addr × Str))
def sp_fresh : Sp := fun vs H Q _ => vs = [] ∧ ∀ v' H', Sm T H H' → StR H' v' 0 [] [] → Q v' H'
def keepM (d m : Int) (ls : List RN) : List RN := ls.filter fun p => decide (m ≤ p.1.t + d) && decide (m < 1000000000)
def StepR (H : Hp) (v : V) (C : Int → List RN → List RN → List Row → Prop) : Prop := ∃ p va vm, v = .ref p ∧ Rd H p (.tup [va, vm]) ∧ ∃ m ls rs made, StR H va m ls rs ∧ LsK H vm (made.map Row.k) ∧ C m ls rs made
def sp_marked : Sp := fun vs H Q _ => ∃ (vj vst : V) (m m0 : Int) (j : Jn) (ls rs : List RN), vs = [vj, vst, .int m] ∧ Tp H vj j.k ∧ StR H vst m0 ls rs ∧ ls.length ≤ 100 ∧ rs.length ≤ 100 ∧
  ∀ v' H', Sm T H H' → StepR H' v' (fun m' ls' rs' made => m' = m ∧ ls' = keepM j.ahead m ls ∧ rs' = keepM j.back m rs ∧ made = []) → Q v' H'
end
variable {P : Program} {w : World} {K : PySem.W.Frag} {mg : Str → Option Value} {base : Heap} {T : List (Addr × Str)} {f : Addr} {fd : FuncData}
abbrev N_fresh : List Str := []
theorem sc_fresh : FnScope N_fresh [] (defScope s_fresh) := ⟨rfl, rfl, rfl, by decide +kernel, rfl, by decide +kernel, by decide +kernel⟩
theorem ok_fresh (B : Bs mg) (hg : mg "fresh" = some (.ref f)) (F : FnP K "fresh" s_fresh f fd) : Df P w K mg base "fresh" 1 [] (sp_fresh T) := by
  refine df_mk hg F sc_fresh (fun vs H Q E h => ?_) (fun _ _ _ _ _ _ us hl => match us, hl with | [], _ => rfl) (fun cdv A outer s H vs Q E hr h => ?_)
  · obtain ⟨rfl, _⟩ := h
    rfl
  · obtain ⟨rfl, k⟩ := h
    refine ⟨_,
      (pss_one (ps_ret (pe_tup (pa_cons pe_int (pa_cons ((pe_tupF pa_nil)) (pa_cons ((pe_tupF pa_nil)) pa_nil))))))
      , ?_⟩
    walk_at "rd2"
    intro p1 o1 hp1 ho1
    have e1 : Sm T H (upd H p1 (.frz o1 (.tup []))) := Sm.new hp1
    have t1 : PTs (upd H p1 (.frz o1 (.tup []))) (.ref p1) [] := ⟨p1, o1, [], rfl, upd_same, ho1, .nil⟩
    generalize upd H p1 (.frz o1 (.tup [])) = H1 at e1 t1
    intro p2 o2 hp2 ho2
    have e2 : Sm T H1 (upd H1 p2 (.frz o2 (.tup []))) := Sm.new hp2
    have t2 : PTs (upd H1 p2 (.frz o2 (.tup []))) (.ref p2) [] := ⟨p2, o2, [], rfl, upd_same, ho2, .nil⟩
    generalize upd H1 p2 (.frz o2 (.tup [])) = H2 at e2 t2
    intro p3 hp3
    have e3 : Sm T H2 (upd H2 p3 (.tup [.int 0, V.ref p1, V.ref p2])) := Sm.new hp3
    exact k (.ref p3) _ ((e1.trans e2).trans e3) ⟨p3, _, _, rfl, .inl upd_same, (t1.sm e2).sm e3, t2.sm e3⟩
abbrev N_marked : List Str := ["join", "state", "mark", "left", "right", "row", "n"]
theorem sc_marked : FnScope N_marked ["join", "state", "mark"] (defScope s_marked) := ⟨rfl, rfl, rfl, by decide +kernel, rfl, by decide +kernel, by decide +kernel⟩
theorem ok_marked (B : Bs mg) (hg : mg "marked" = some (.ref f)) (F : FnP K "marked" s_marked f fd) : Df P w K mg base "marked" 1 ["join", "state", "mark"] (sp_marked T) := by
  refine df_mk hg F sc_marked (fun vs H Q E h => ?_) (fun _ _ _ _ _ _ us hl => match us, hl with | [_, _, _], _ => rfl) (fun cdv A outer s H vs Q E hr h => ?_)
  · obtain ⟨_, _, _, _, _, _, _, rfl, _⟩ := h
    rfl
  · obtain ⟨vj, vst, m, m0, j, ls, rs, rfl, hj, hst, ll, lr, k⟩ := h
    refine ⟨_,
      (pss_cons (ps_set (i := 3) sc_marked.nd rfl (by first | exact Or.inl rfl | exact Or.inr rfl) ((pe_callTy (tupOfF (K := K) rfl) (by rfl) B.tuple_ (by decide +kernel) (pa_cons (pe_lc (own := [("row", 5), ("n", 6)]) (by rfl) sc_marked.nd (pi_tupK (K := K) rfl (pe_ix (ix_tupK (K := K) rfl) (pv 1) pe_int (fun _ _ => rfl))) (blkOk_by (N := N_marked) (sc := defScope s_marked) (by decide +kernel)) (fun _ _ _ _ _ => (pg_tupK (n := 2) (K := K) rfl rfl (pgs_cons (pg_name (i := 5) sc_marked.nd rfl (by first | exact Or.inl rfl | exact Or.inr rfl)) (pgs_cons (pg_name (i := 6) sc_marked.nd rfl (by first | exact Or.inl rfl | exact Or.inr rfl)) pgs_nil)))) (fun _ _ _ _ _ => (pts_one (PW.pt (pw_and (pt_cmpR op_ge (pe_op op_add (pe_ix (ix_tupK (K := K) rfl) (pv 5) pe_int (fun _ _ => rfl)) (pe_ix (ix_tupK (K := K) rfl) (pv 0) pe_int (fun _ _ => rfl))) (pv 2) (nomark _)) (pw_and1 (pt_cmpR op_lt (pv 2) (pe_gi B.END_marks) (nomark _))))))) (fun _ _ _ _ _ => (pe_tup (pa_cons (pv 5) (pa_cons (pv 6) pa_nil))))) pa_nil))))
    (pss_cons (ps_set (i := 4) sc_marked.nd rfl (by first | exact Or.inl rfl | exact Or.inr rfl) ((pe_callTy (tupOfF (K := K) rfl) (by rfl) B.tuple_ (by decide +kernel) (pa_cons (pe_lc (own := [("row", 5), ("n", 6)]) (by rfl) sc_marked.nd (pi_tupK (K := K) rfl (pe_ix (ix_tupK (K := K) rfl) (pv 1) pe_int (fun _ _ => rfl))) (blkOk_by (N := N_marked) (sc := defScope s_marked) (by decide +kernel)) (fun _ _ _ _ _ => (pg_tupK (n := 2) (K := K) rfl rfl (pgs_cons (pg_name (i := 5) sc_marked.nd rfl (by first | exact Or.inl rfl | exact Or.inr rfl)) (pgs_cons (pg_name (i := 6) sc_marked.nd rfl (by first | exact Or.inl rfl | exact Or.inr rfl)) pgs_nil)))) (fun _ _ _ _ _ => (pts_one (PW.pt (pw_and (pt_cmpR op_ge (pe_op op_add (pe_ix (ix_tupK (K := K) rfl) (pv 5) pe_int (fun _ _ => rfl)) (pe_ix (ix_tupK (K := K) rfl) (pv 0) pe_int (fun _ _ => rfl))) (pv 2) (nomark _)) (pw_and1 (pt_cmpR op_lt (pv 2) (pe_gi B.END_marks) (nomark _))))))) (fun _ _ _ _ _ => (pe_tup (pa_cons (pv 5) (pa_cons (pv 6) pa_nil))))) pa_nil))))
    (pss_one (ps_ret (pe_tup (pa_cons (pe_tup (pa_cons (pv 2) (pa_cons (pv 3) (pa_cons (pv 4) pa_nil)))) (pa_cons (pe_lst pa_nil) pa_nil)))))))
      , ?_⟩
    walk_at "rd2"
    have hst' := hst.tp
    have prK : ∀ {H1 : Hp} {ys : List V} {ps : List RN}, Paired (fun v p => Tp H1 v (prn p)) ys ps → Tps H1 ys (ps.map prn) := by
      intro H1 ys ps h
      induction h with
      | nil => exact .nil
      | cons r _ ih => exact .cons r ih
    have fmf : ∀ (d : Int) (l : List RN), l.filterMap (fun p => if decide (m ≤ p.1.t + d) = true ∧ decide (m < 1000000000) = true then some p else none) = keepM d m l := fun d l => by
      unfold keepM
      induction l with
      | nil => rfl
      | cons p l ih =>
        rw [List.filterMap_cons, List.filter_cons, ih]
        by_cases h : decide (m ≤ p.1.t + d) = true ∧ decide (m < 1000000000) = true
        · rw [if_pos h, if_pos (by rw [h.1, h.2]; rfl)]
        · rw [if_neg h, if_neg (fun z => h (by rw [Bool.and_eq_true] at z; exact z))]
    refine lcT (T := T) ls prn (fun _ H v (p : RN) => Tp H v (prn p)) (fun p => if decide (m ≤ p.1.t + j.ahead) = true ∧ decide (m < 1000000000) = true then some p else none) (fun Q' k' => ?_) (by omega) (fun _ _ _ _ _ xb t => Tp.ts xb.1 _ _ t) (fun D i x p H1 ha1 e tx hD Qy Qn hy hnn => ?_) (fun D1 H1 ys1 e1 hD1 pr1 => ?_)
    · walk_at "rd2"
      exact ix_d (i := 1) hst' rfl fun v t => k' v H (Sm.refl _ _) t
    · refine gT2 tx fun v1 v2 t1 t2 => ?_
      walk_at "rd2"
      refine ix_d (i := 0) t1 rfl fun y ty => ?_
      obtain rfl := ty.num_inv
      refine ix_d (i := 4) (Tp.ts e.ts _ _ hj) rfl fun y ty => ?_
      obtain rfl := ty.num_inv
      walk_at "rd2"
      obtain rfl := t2.num_inv
      refine ite2 (fun c1 => ?_) (fun c1 => ?_)
      · refine ite2 (fun c2 => ?_) (fun c2 => ?_)
        · exact tup_d (T := T) (.cons t1 (.cons t2 .nil)) fun v5 H5 e5 t5 => hy v5 p H5 (if_pos ⟨c1, c2⟩) e5 t5
        · exact hnn H1 (if_neg fun z => c2 z.2) (Sm.refl _ _)
      · exact hnn H1 (if_neg fun z => c1 z.1) (Sm.refl _ _)
    rw [fmf] at pr1
    refine tupleF_d (T := T) hD1 (prK pr1) fun v2 H2 e2 t2 => ?_
    have e12 := e1.trans e2
    refine lcT (T := T) rs prn (fun _ H v (p : RN) => Tp H v (prn p)) (fun p => if decide (m ≤ p.1.t + j.back) = true ∧ decide (m < 1000000000) = true then some p else none) (fun Q' k' => ?_) (by omega) (fun _ _ _ _ _ xb t => Tp.ts xb.1 _ _ t) (fun D i x p H1 ha1 e tx hD Qy Qn hy hnn => ?_) (fun D3 H3 ys3 e3 hD3 pr3 => ?_)
    · walk_at "rd2"
      exact ix_d (i := 2) (Tp.ts e12.ts _ _ hst') rfl fun v t => k' v H2 (Sm.refl _ _) t
    · refine gT2 tx fun v1 v2 t1 t2 => ?_
      walk_at "rd2"
      refine ix_d (i := 0) t1 rfl fun y ty => ?_
      obtain rfl := ty.num_inv
      refine ix_d (i := 3) (Tp.ts (e12.trans e).ts _ _ hj) rfl fun y ty => ?_
      obtain rfl := ty.num_inv
      walk_at "rd2"
      obtain rfl := t2.num_inv
      refine ite2 (fun c1 => ?_) (fun c1 => ?_)
      · refine ite2 (fun c2 => ?_) (fun c2 => ?_)
        · exact tup_d (T := T) (.cons t1 (.cons t2 .nil)) fun v5 H5 e5 t5 => hy v5 p H5 (if_pos ⟨c1, c2⟩) e5 t5
        · exact hnn H1 (if_neg fun z => c2 z.2) (Sm.refl _ _)
      · exact hnn H1 (if_neg fun z => c1 z.1) (Sm.refl _ _)
    rw [fmf] at pr3
    refine tupleF_d (T := T) hD3 (prK pr3) fun v4 H4 e4 t4 => ?_
    have e34 := e3.trans e4
    intro p5 hp5
    have e5 : Sm T H4 (upd H4 p5 (.tup [.int m, v2, v4])) := Sm.new hp5
    have s5 : StR (upd H4 p5 (.tup [.int m, v2, v4])) (.ref p5) m (keepM j.ahead m ls) (keepM j.back m rs) := ⟨p5, v2, v4, rfl, .inl upd_same, t2.sm (e34.trans e5), t4.sm e5⟩
    generalize upd H4 p5 (.tup [.int m, v2, v4]) = H5 at e5 s5
    intro p6 hp6
    have e6 : Sm T H5 (upd H5 p6 (.lst [])) := Sm.new hp6
    have l6 : LsK (upd H5 p6 (.lst [])) (.ref p6) [] := ⟨p6, [], rfl, upd_same, .nil⟩
    generalize upd H5 p6 (.lst []) = H6 at e6 l6
    intro p7 hp7
    have e7 : Sm T H6 (upd H6 p7 (.tup [V.ref p5, V.ref p6])) := Sm.new hp7
    exact k (.ref p7) _ ((((e12.trans e34).trans e5).trans e6).trans e7) ⟨p7, _, _, rfl, .inl upd_same, m, _, _, [], (s5.sm e6).sm e7, lsK_sm e7 l6, rfl, rfl, rfl, rfl⟩
end K67
end
/-! ## K67J4 -/
section
set_option maxHeartbeats 4000000
/-! K67J4: a row put: the plain side, and the walk -/
namespace K67
open PySem PySem.Spec PyProof.Rows L2 LamX NdefX
local macro_rules | `(tactic| walk_at "sm") => `(tactic| first | assumption | exact Sm.refl _ _ | (refine Sm.trans ?_ (by assumption); walk_at "sm"))
local macro_rules | `(tactic| walk_at "ts") => `(tactic| first | assumption | exact TS.refl _ | (refine TS.trans ?_ (by assumption); walk_at "ts") | (refine TS.trans ?_ (Sm.ts (by assumption)); walk_at "ts"))
local macro_rules | `(tactic| walk_at "tp") => `(tactic| first | assumption | exact Tp.int _ | exact Tp.str _ | exact Tp.non | (refine Tp.ts (H := ?_) ?_ _ _ (by assumption); walk_at "ts"))
local macro_rules | `(tactic| walk_at "tps") => `(tactic| first | assumption | exact Tps.nil | (refine Tps.cons ?_ ?_; · walk_at "tp"; · walk_at "tps") | (refine Tps.ts (H := ?_) ?_ _ _ (by assumption); walk_at "ts"))
local macro_rules | `(tactic| walk_at "rd") => `(tactic| try simp only [rMax2, and_assoc, tYes, tSeq, tIfS, tRet, tNext, tTest, tB, tOp, tUn, tVar, tC, tTup, tLst, tCons, tNil, tIf, tCB, tCall, tBM, tBM0, tAsg, gName, gCons, gNil, gSub, tDrop, tPar, tPar3, tAug, tAnd, tOr, tNot, tAndV, tOrV, tNotV, tChain, tSl, tPart, tNoPart, rI0, rI, rU, rEq, rNe, L2.start, wipe, sz0, sz1, sz2, sz3, sz4, sz5, sz6, List.map_cons, List.map_nil, List.length_cons, List.length_nil, List.cons_append, List.nil_append, List.append_nil, List.getElem?_cons_zero, List.getElem?_cons_succ, List.set_cons_zero, List.set_cons_succ, List.replicate_zero, List.replicate_succ, Option.some.injEq, V.bl.injEq, V.int.injEq, V.str.injEq, List.cons.injEq, and_true, true_and, exists_eq_left', exists_eq_left, exists_eq', exists_eq, exists_and_left, Nat.reduceSub, Nat.reduceAdd, Nat.reduceLeDiff, decide_true, decide_false, if_true, if_false, Bool.false_eq_true, reduceIte])
local macro_rules | `(tactic| walk_at "rd2") => `(tactic| try simp only [tDGet, sDPut, tDNewK, tNNew, tNGet2, tNSetd, tNGet, sNPut, tTupF, tCKw, tDead, sDead, tDispN, tPairs, StX.tStar, rNeDN, rNeDN2, rMax2, and_assoc, tYes, tSeq, tIfS, tRet, tNext, tTest, tB, tOp, tUn, tVar, tC, tTup, tLst, tCons, tNil, tIf, tCB, tCall, tBM, tBM0, tAsg, gName, gCons, gNil, gSub, tDrop, tPar, tPar3, tAug, tAnd, tOr, tNot, tAndV, tOrV, tNotV, tChain, tSl, tPart, tNoPart, rI0, rI, rU, rEq, rNe, L2.start, wipe, sz0, sz1, sz2, sz3, sz4, sz5, sz6, List.map_cons, List.map_nil, List.length_cons, List.length_nil, List.cons_append, List.nil_append, List.append_nil, List.getElem?_cons_zero, List.getElem?_cons_succ, List.set_cons_zero, List.set_cons_succ, List.replicate_zero, List.replicate_succ, Option.some.injEq, V.bl.injEq, V.int.injEq, V.str.injEq, List.cons.injEq, and_true, true_and, exists_eq_left', exists_eq_left, exists_eq', exists_eq, exists_and_left, Nat.reduceSub, Nat.reduceAdd, Nat.reduceLeDiff, decide_true, decide_false, if_true, if_false, Bool.false_eq_true, reduceIte])

def kvR (ls : List RN) : List (NestedKey × V) := ls.map fun p => (p.1.k, V.int (p.2 : Int))
def bumpL (ls : List RN) (r : Row) : List RN := if (findR ls r).isSome then ls.map (fun p => if p.1 = r then (p.1, p.2 + 1) else p) else ls ++ [(r, 1)]
def cntR (ls : List RN) (r : Row) : Nat := ((findR ls r).map (·.2)).getD 0
theorem find_none {ls : List RN} {r : Row} (h : findR ls r = none) : r ∉ ls.map (·.1) := fun hm => by
  obtain ⟨p, hp, e⟩ := List.mem_map.mp hm
  have := List.find?_eq_none.mp h p hp
  exact this (decide_eq_true e)
theorem find_some {ls : List RN} {r : Row} {p : RN} (h : findR ls r = some p) : p ∈ ls ∧ p.1 = r := ⟨List.mem_of_find?_eq_some h, of_decide_eq_true (List.find?_some (p := fun p : RN => decide (p.1 = r)) h)⟩
theorem val_none {ls : List RN} {r : Row} (h : r ∉ ls.map (·.1)) : valV (kvR ls) r.k = none := by
  induction ls with
  | nil => rfl
  | cons q ls ih =>
    rw [List.map_cons, List.mem_cons, not_or] at h
    show valV ((q.1.k, _) :: kvR ls) r.k = none
    rw [valV_neg (fun z => h.1 (Row.k_inj z).symm)]
    exact ih h.2
theorem val_cnt {ls : List RN} (nd : (ls.map (·.1)).Nodup) (r : Row) : (valV (kvR ls) r.k).getD (.int 0) = .int (cntR ls r : Int) := by
  unfold cntR
  cases h : findR ls r with
  | none => rw [val_none (find_none h)]; rfl
  | some p =>
    obtain ⟨hp, rfl⟩ := find_some h
    rw [show valV (kvR ls) p.1.k = some (.int (p.2 : Int)) from val_row nd hp]
    rfl
theorem kv_bump {ls : List RN} (nd : (ls.map (·.1)).Nodup) (r : Row) : putK (kvR ls) r.k (.int ((cntR ls r : Int) + 1)) = kvR (bumpL ls r) := by
  unfold bumpL
  cases h : findR ls r with
  | none =>
    have hn := find_none h
    rw [putK_new _ (val_none hn)]
    unfold cntR kvR
    rw [h]
    simp
  | some p =>
    obtain ⟨hp, rfl⟩ := find_some h
    have hany : ((kvR ls).any fun kv => decide (kv.1 = p.1.k)) = true := List.any_eq_true.mpr ⟨(p.1.k, .int (p.2 : Int)), List.mem_map.mpr ⟨p, hp, rfl⟩, by simp⟩
    unfold putK
    rw [if_pos hany]
    show _ = kvR (ls.map _)
    unfold kvR
    rw [List.map_map, List.map_map]
    refine List.map_congr_left fun q hq => ?_
    show (if q.1.k = p.1.k then (q.1.k, V.int _) else (q.1.k, V.int (q.2 : Int))) = _
    by_cases e : q.1 = p.1
    · have hf := findR_mem nd hq
      rw [e, h] at hf
      obtain rfl := Option.some.inj hf
      simp only [if_pos rfl, Function.comp_apply]
      unfold cntR
      rw [h]
      simp
    · rw [if_neg (fun z => e (Row.k_inj z))]
      simp [e]
theorem bump_keys {ls : List RN} {r : Row} (nd : (ls.map (·.1)).Nodup) : ((bumpL ls r).map (·.1)).Nodup ∧ (∀ p ∈ bumpL ls r, p.1 = r ∨ ∃ q ∈ ls, q.1 = p.1) ∧ (bumpL ls r).length ≤ ls.length + 1 := by
  unfold bumpL
  cases h : findR ls r with
  | none =>
    refine ⟨?_, fun p hp => ?_, by simp⟩
    · show ((ls ++ [(r, 1)]).map _).Nodup
      rw [List.map_append, List.nodup_append]
      exact ⟨nd, by simp, fun a ha b hb e => find_none h (by have : b = r := by simpa using hb
                                                             rw [← this, ← e]; exact ha)⟩
    · rcases List.mem_append.mp (show p ∈ ls ++ [(r, 1)] from hp) with hp | hp
      · exact .inr ⟨p, hp, rfl⟩
      · exact .inl (by rw [List.mem_singleton.mp hp])
  | some q =>
    have e : (ls.map fun p : RN => if p.1 = r then (p.1, p.2 + 1) else p).map (·.1) = ls.map (·.1) := by
      rw [List.map_map]
      refine List.map_congr_left fun p _ => ?_
      show (if p.1 = r then (p.1, p.2 + 1) else p).1 = p.1
      split <;> rfl
    refine ⟨?_, fun p hp => ?_, ?_⟩
    · show ((ls.map fun p : RN => if p.1 = r then (p.1, p.2 + 1) else p).map _).Nodup
      rw [e]
      exact nd
    · obtain ⟨p', hp', rfl⟩ := List.mem_map.mp (show p ∈ ls.map _ from hp)
      refine .inr ⟨p', hp', ?_⟩
      split <;> rfl
    · show (ls.map _).length ≤ _
      rw [List.length_map]
      omega
theorem expd_bump {ls : List RN} {r : Row} (nd : (ls.map (·.1)).Nodup) : (expd (bumpL ls r)).Perm (r :: expd ls) := by
  unfold bumpL
  cases h : findR ls r with
  | none =>
    show (expd (ls ++ [(r, 1)])).Perm _
    unfold expd
    rw [List.flatMap_append]
    exact List.perm_append_comm
  | some q =>
    obtain ⟨hq, rfl⟩ := find_some h
    show (expd (ls.map _)).Perm _
    clear h
    induction ls with
    | nil => cases hq
    | cons p ls ih =>
      rw [List.map_cons, List.nodup_cons] at nd
      rw [List.map_cons]
      by_cases e : p.1 = q.1
      · have hno : ∀ p' ∈ ls, p'.1 ≠ q.1 := fun p' hp' z => nd.1 (List.mem_map.mpr ⟨p', hp', z.trans e.symm⟩)
        have em : (ls.map fun p' : RN => if p'.1 = q.1 then (p'.1, p'.2 + 1) else p') = ls := by
          conv => rhs; rw [← List.map_id ls]
          exact List.map_congr_left fun p' hp' => if_neg (hno p' hp')
        rw [em, if_pos e]
        show (List.replicate (p.2 + 1) p.1 ++ expd ls).Perm _
        rw [List.replicate_succ, e]
        show (q.1 :: List.replicate p.2 q.1 ++ expd ls).Perm (q.1 :: (List.replicate p.2 p.1 ++ expd ls))
        rw [e]
        exact .refl _
      · rw [if_neg e]
        rcases List.mem_cons.mp hq with rfl | hq
        · exact absurd rfl e
        · have := ih nd.2 hq
          show (List.replicate p.2 p.1 ++ expd _).Perm (q.1 :: (List.replicate p.2 p.1 ++ expd ls))
          exact (this.append_left _).trans List.perm_middle
theorem expd_count {ls : List RN} {p : RN} (h : p ∈ ls) : p.2 ≤ (expd ls).length := by
  induction ls with
  | nil => cases h
  | cons q ls ih =>
    show p.2 ≤ (List.replicate q.2 q.1 ++ expd ls).length
    rw [List.length_append, List.length_replicate]
    rcases List.mem_cons.mp h with rfl | h
    · omega
    · have := ih h
      omega
theorem expd_perm {ls ls' : List RN} (h : ls.Perm ls') : (expd ls).Perm (expd ls') := h.flatMap_right _
/-- the typed rows of a join -/
structure JT (j : Jn) (TyL TyR : Row → Prop) : Prop where
  okL : ∀ a, TyL a → RowAt j.l a
  okR : ∀ a, TyR a → RowAt j.r a
  jok : ∀ a b, TyL a → TyR b → j.ok a b
  pok : ∀ a b, TyL a → TyR b → (pairR j a b).ok
  alL : ∀ a b, TyL a → TyL b → PySem.W.alike (keptK j.l a).data (keptK j.l b).data = true
  alR : ∀ a b, TyR a → TyR b → PySem.W.alike (keptK j.r a).data (keptK j.r b).data = true
  alM : ∀ a b c d, TyL a → TyR b → TyL c → TyR d → PySem.W.alike (givenK (pairR j a b)).data (givenK (pairR j c d)).data = true
theorem kv_all {ls : List RN} (nd : (ls.map (·.1)).Nodup) : (kvR ls).foldl (fun acc p => putK acc p.1 p.2) [] = kvR ls := by
  have go : ∀ (more acc : List (NestedKey × V)), ((acc ++ more).map (·.1)).Nodup → more.foldl (fun acc p => putK acc p.1 p.2) acc = acc ++ more := by
    intro more
    induction more with
    | nil => intro acc _; rw [List.append_nil]; rfl
    | cons p more ih =>
      intro acc hn
      have hp : putK acc p.1 p.2 = acc ++ [p] := by
        unfold putK
        have : (acc.any fun q => decide (q.1 = p.1)) = false := by
          rw [List.any_eq_false]
          intro q hq hz
          rw [List.map_append, List.nodup_append] at hn
          exact hn.2.2 q.1 (List.mem_map.mpr ⟨q, hq, rfl⟩) p.1 (by simp) (of_decide_eq_true hz)
        simp [this]
      show more.foldl _ (putK acc p.1 p.2) = _
      rw [hp, ih _ (by simpa using hn)]
      simp
  refine (go (kvR ls) [] ?_).trans (List.nil_append _)
  rw [List.nil_append]
  unfold kvR
  rw [List.map_map]
  have : (ls.map ((fun x : NestedKey × V => x.1) ∘ fun p : RN => (p.1.k, V.int (p.2 : Int)))) = (ls.map (·.1)).map Row.k := by rw [List.map_map]; rfl
  rw [this]
  exact List.pairwise_map.mpr (nd.imp fun hne e => hne (Row.k_inj e))
end K67
end
/-! ## K67J5 -/
section
set_option maxHeartbeats 4000000
/-! K67J5: put -/
namespace K67
open PySem PySem.Spec PyProof.Rows L2 LamX NdefX
local macro_rules | `(tactic| walk_at "sm") => `(tactic| first | assumption | exact Sm.refl _ _ | (refine Sm.trans ?_ (by assumption); walk_at "sm"))
local macro_rules | `(tactic| walk_at "ts") => `(tactic| first | assumption | exact TS.refl _ | (refine TS.trans ?_ (by assumption); walk_at "ts") | (refine TS.trans ?_ (Sm.ts (by assumption)); walk_at "ts"))
local macro_rules | `(tactic| walk_at "tp") => `(tactic| first | assumption | exact Tp.int _ | exact Tp.str _ | exact Tp.non | (refine Tp.ts (H := ?_) ?_ _ _ (by assumption); walk_at "ts"))
local macro_rules | `(tactic| walk_at "tps") => `(tactic| first | assumption | exact Tps.nil | (refine Tps.cons ?_ ?_; · walk_at "tp"; · walk_at "tps") | (refine Tps.ts (H := ?_) ?_ _ _ (by assumption); walk_at "ts"))
local macro_rules | `(tactic| walk_at "rd") => `(tactic| try simp only [rMax2, and_assoc, tYes, tSeq, tIfS, tRet, tNext, tTest, tB, tOp, tUn, tVar, tC, tTup, tLst, tCons, tNil, tIf, tCB, tCall, tBM, tBM0, tAsg, gName, gCons, gNil, gSub, tDrop, tPar, tPar3, tAug, tAnd, tOr, tNot, tAndV, tOrV, tNotV, tChain, tSl, tPart, tNoPart, rI0, rI, rU, rEq, rNe, L2.start, wipe, sz0, sz1, sz2, sz3, sz4, sz5, sz6, List.map_cons, List.map_nil, List.length_cons, List.length_nil, List.cons_append, List.nil_append, List.append_nil, List.getElem?_cons_zero, List.getElem?_cons_succ, List.set_cons_zero, List.set_cons_succ, List.replicate_zero, List.replicate_succ, Option.some.injEq, V.bl.injEq, V.int.injEq, V.str.injEq, List.cons.injEq, and_true, true_and, exists_eq_left', exists_eq_left, exists_eq', exists_eq, exists_and_left, Nat.reduceSub, Nat.reduceAdd, Nat.reduceLeDiff, decide_true, decide_false, if_true, if_false, Bool.false_eq_true, reduceIte])
local macro_rules | `(tactic| walk_at "rd2") => `(tactic| try simp only [tDGet, sDPut, tDNewK, tNNew, tNGet2, tNSetd, tNGet, sNPut, tTupF, tCKw, tDead, sDead, tDispN, tPairs, StX.tStar, rNeDN, rNeDN2, rMax2, and_assoc, tYes, tSeq, tIfS, tRet, tNext, tTest, tB, tOp, tUn, tVar, tC, tTup, tLst, tCons, tNil, tIf, tCB, tCall, tBM, tBM0, tAsg, gName, gCons, gNil, gSub, tDrop, tPar, tPar3, tAug, tAnd, tOr, tNot, tAndV, tOrV, tNotV, tChain, tSl, tPart, tNoPart, rI0, rI, rU, rEq, rNe, L2.start, wipe, sz0, sz1, sz2, sz3, sz4, sz5, sz6, List.map_cons, List.map_nil, List.length_cons, List.length_nil, List.cons_append, List.nil_append, List.append_nil, List.getElem?_cons_zero, List.getElem?_cons_succ, List.set_cons_zero, List.set_cons_succ, List.replicate_zero, List.replicate_succ, Option.some.injEq, V.bl.injEq, V.int.injEq, V.str.injEq, List.cons.injEq, and_true, true_and, exists_eq_left', exists_eq_left, exists_eq', exists_eq, exists_and_left, Nat.reduceSub, Nat.reduceAdd, Nat.reduceLeDiff, decide_true, decide_false, if_true, if_false, Bool.false_eq_true, reduceIte])

theorem dictN_pts {P : Program} {w : World} {T : List (Addr × Str)} {H : Hp} {x : V} {ls : List RN} {Q : VK} (h : PTs H x (ls.map prn)) (nd : (ls.map (·.1)).Nodup) (hl : ls.length ≤ 1000) (hd8 : ∀ p ∈ ls, p.1.k.depth ≤ 8)
    (k : ∀ d H' es, Sm T H H' → H d = none → DictE P w H' d es → kvsOf es = kvR ls → Q (.ref d) H') : rDictN P w [x] H Q := by
  obtain ⟨a, o, vs, rfl, h1, h2, h3⟩ := h
  have key : ∀ {vs : List V} {ls : List RN}, Tps H vs (ls.map prn) → (∀ p ∈ ls, p.1.k.depth ≤ 8) → ∃ ps : List Ent, PairsN H vs ps ∧ kvsOf ps = kvR ls := by
    intro vs ls
    induction ls generalizing vs with
    | nil => intro h _; obtain rfl := h.nil_inv; exact ⟨[], .nil, rfl⟩
    | cons q ls ih =>
      intro h hd
      obtain ⟨v, ws, rfl, tv, tw⟩ := h.cons_inv
      obtain ⟨ps, p1, p2⟩ := ih tw fun p hp => hd p (List.mem_cons_of_mem _ hp)
      obtain ⟨t, xs, rfl, hr, ht⟩ := tv.tup_inv
      obtain ⟨x1, r, rfl, t1, ht⟩ := ht.cons_inv
      obtain ⟨x2, r, rfl, t2, ht⟩ := ht.cons_inv
      obtain rfl := ht.nil_inv
      obtain rfl := t2.num_inv
      obtain ⟨b, zs, rfl, hb, hz⟩ := Tp.tup_inv (ds := [.num q.1.t, .num q.1.s, .tup q.1.vs]) t1
      refine ⟨(q.1.k, b, .int (q.2 : Int)) :: ps, .cons ⟨t, rfl, hr, t1, hd q List.mem_cons_self⟩ p1, ?_⟩
      unfold kvsOf kvR at *
      rw [List.map_cons, List.map_cons, p2]
  obtain ⟨ps, p1, p2⟩ := key h3 hd8
  have hlen : ps.length = ls.length := by have := congrArg List.length p2; unfold kvsOf kvR at this; simpa using this
  refine ⟨a, o, vs, ps, rfl, h1, h2, p1, by omega, fun d hd => k d _ (storeAll [] ps) (Sm.new hd) hd (dictN_e hd p1) ?_⟩
  rw [storeAll_kvs, p2]
  exact kv_all nd
theorem tps_rep {H : Hp} {v : V} {d : NestedKey} (h : Tp H v d) : ∀ n, Tps H (List.replicate n v) (List.replicate n d)
  | 0 => .nil
  | n + 1 => .cons h (tps_rep h n)
theorem rep_flat {α : Type} (v : α) : ∀ n, (List.replicate n [v]).flatten = List.replicate n v
  | 0 => rfl
  | n + 1 => by rw [List.replicate_succ, List.replicate_succ, List.flatten_cons, rep_flat v n]; rfl
section
variable (P : Program) (w : World) (T : List (Addr × Str))
/-- one meeting, as the row stands on its side -/
def meetS (j : Jn) (side : Nat) (r o : Row) : Bool := if side = 0 then meetB j r o else meetB j o r
def pairS (j : Jn) (side : Nat) (r o : Row) : Row := if side = 0 then pairR j r o else pairR j o r
def newS (j : Jn) (side : Nat) (r : Row) (os : List Row) : List Row := (os.filter (meetS j side r)).map (pairS j side r)
structure StOk (j : Jn) (TyL TyR : Row → Prop) (ls rs : List RN) : Prop where
  nl : (ls.map (·.1)).Nodup
  nr : (rs.map (·.1)).Nodup
  tl : ∀ p ∈ ls, TyL p.1
  tr : ∀ p ∈ rs, TyR p.1
  ll : ls.length ≤ 50
  lr : rs.length ≤ 50
  el : (expd ls).length ≤ 50
  er : (expd rs).length ≤ 50
def sp_put : Sp := fun vs H Q _ => ∃ (vj vst vr : V) (side : Nat) (m : Int) (j : Jn) (ls rs : List RN) (r : Row) (TyL TyR : Row → Prop), vs = [vj, vst, .int (side : Int), vr] ∧ side ≤ 1 ∧ Tp H vj j.k ∧ StR H vst m ls rs ∧ Tp H vr r.k ∧ Tabs T H ∧ JT j TyL TyR ∧ StOk j TyL TyR ls rs ∧ (if side = 0 then TyL r else TyR r) ∧ ls.length ≤ 40 ∧ rs.length ≤ 40 ∧
  ∀ v' H', Sm T H H' → StepR H' v' (fun m' ls' rs' made => m' = m ∧ (ls'.map (·.1)).Nodup ∧ (rs'.map (·.1)).Nodup ∧ (expd ls').Perm (if side = 0 then r :: expd ls else expd ls) ∧ (expd rs').Perm (if side = 0 then expd rs else r :: expd rs) ∧ ls'.length ≤ ls.length + 1 ∧ rs'.length ≤ rs.length + 1 ∧ (∀ p ∈ ls', TyL p.1) ∧ (∀ p ∈ rs', TyR p.1) ∧
    made.Perm (newS j side r (expd (sideOf (1 - side) ls rs)))) → Q v' H'
end
variable {P : Program} {w : World} {K : PySem.W.Frag} {mg : Str → Option Value} {base : Heap} {T : List (Addr × Str)} {f : Addr} {fd : FuncData}
abbrev N_put : List Str := ["join", "state", "side", "row", "mark", "made", "late", "n", "one", "other", "sides", "after"]
theorem sc_put : FnScope N_put ["join", "state", "side", "row"] (defScope s_put) := ⟨rfl, rfl, rfl, by decide +kernel, rfl, by decide +kernel, by decide +kernel⟩
theorem ok_put (B : Bs mg) (D_do_meet : Df P w K mg base "do_meet" 2 ["join", "one", "other"] (sp_do_meet T)) (D_pair : Df P w K mg base "pair" 1 ["join", "one", "other"] (sp_pair T)) (D_in_order : Df P w K mg base "in_order" 7 ["join", "side", "found"] (sp_in_order P w T)) (D_given_rank : Df P w K mg base "given_rank" 3 ["row"] (sp_given T)) {q_given_rank : Addr} (g_given_rank : mg "given_rank" = some (.ref q_given_rank)) (hg : mg "put" = some (.ref f)) (F : FnP K "put" s_put f fd) : Df P w K mg base "put" 8 ["join", "state", "side", "row"] (sp_put T) := by
  refine df_mk hg F sc_put (fun vs H Q E h => ?_) (fun _ _ _ _ _ _ us hl => match us, hl with | [_, _, _, _], _ => rfl) (fun cdv A outer s H vs Q E hr h => ?_)
  · obtain ⟨_, _, _, _, _, _, _, _, _, _, _, rfl, _⟩ := h
    rfl
  · obtain ⟨vj, vst, vr, side, m, j, ls, rs, r, TyL, TyR, rfl, hside, hj, hst, hr', hT, jt, so, hty, l40, r40, k⟩ := h
    refine ⟨_,
      (pss_cons (ps_par (i := 4) (j := 5) (by rfl) sc_put.nd rfl rfl (by decide) rfl rfl (pa_cons (pe_ix (ix_tupK (K := K) rfl) (pv 1) pe_int (fun _ _ => rfl)) (pa_cons (pe_lst pa_nil) pa_nil)) (by rfl))
    (pss_cons (ps_for PassesOwn.never rfl (pi_tupK (K := K) rfl (pe_ix (ix_tupK (K := K) rfl) (pv 1) (pe_op op_sub pe_int (pv 2)) (fun _ _ => rfl))) (pg_tupK (n := 2) (K := K) rfl rfl (pgs_cons (pg_name (i := 6) sc_put.nd rfl (by first | exact Or.inl rfl | exact Or.inr rfl)) (pgs_cons (pg_name (i := 7) sc_put.nd rfl (by first | exact Or.inl rfl | exact Or.inr rfl)) pgs_nil)))
    (pss_cons (ps_asg (pe_ifExp (pt_cmpR op_eq (pv 2) pe_int (nomark _)) (pe_tup (pa_cons (pv 3) (pa_cons (pv 6) pa_nil))) (pe_tup (pa_cons (pv 6) (pa_cons (pv 3) pa_nil)))) (pg_tupK (n := 2) (K := K) rfl rfl (pgs_cons (pg_name (i := 8) sc_put.nd rfl (by first | exact Or.inl rfl | exact Or.inr rfl)) (pgs_cons (pg_name (i := 9) sc_put.nd rfl (by first | exact Or.inl rfl | exact Or.inr rfl)) pgs_nil))))
    (pss_one (ps_if (pt_val (pe_df D_do_meet hr (pa_cons (pv 0) (pa_cons (pv 8) (pa_cons (pv 9) pa_nil))))) (pss_one (ps_aug (i := 5) sc_put.nd rfl (by first | exact Or.inl rfl | exact Or.inr rfl) (pe_op op_rep (pe_lst (pa_cons (pe_df D_pair hr (pa_cons (pv 0) (pa_cons (pv 8) (pa_cons (pv 9) pa_nil)))) pa_nil)) (pv 7)) iop_ext))
    pss_nil))))
    (pss_cons (ps_set (i := 10) sc_put.nd rfl (by first | exact Or.inl rfl | exact Or.inr rfl) (pe_lst (pa_cons (pe_callTy (call_dictN (P := P) (w := w) rfl rfl rfl (hu16 hr)) (by rfl) B.dict_ (by decide +kernel) (pa_cons (pe_ix (ix_tupK (K := K) rfl) (pv 1) pe_int (fun _ _ => rfl)) pa_nil)) (pa_cons (pe_callTy (call_dictN (P := P) (w := w) rfl rfl rfl (hu16 hr)) (by rfl) B.dict_ (by decide +kernel) (pa_cons (pe_ix (ix_tupK (K := K) rfl) (pv 1) pe_int (fun _ _ => rfl)) pa_nil)) pa_nil))))
    (pss_cons (ps_nput (P := P) (w := w) rfl rfl (hu9 hr) (pe_ix (ix_listK (K := K) rfl) (pv 10) (pv 2) (fun _ _ => rfl)) (pv 3) (pe_op op_add (pe_nget2 (P := P) (w := w) rfl rfl (hu9 hr) (pe_ix (ix_listK (K := K) rfl) (pv 10) (pv 2) (fun _ _ => rfl)) (pv 3) pe_int ⟨by rfl, by rfl, by rfl, by rfl⟩) pe_int) rfl)
    (pss_cons (ps_set (i := 11) sc_put.nd rfl (by first | exact Or.inl rfl | exact Or.inr rfl) (pe_tup (pa_cons (pv 4) (pa_cons (pe_df D_in_order hr (pa_cons (pv 0) (pa_cons pe_int (pa_cons (pe_ix (ix_listK (K := K) rfl) (pv 10) pe_int (fun _ _ => rfl)) pa_nil)))) (pa_cons (pe_df D_in_order hr (pa_cons (pv 0) (pa_cons pe_int (pa_cons (pe_ix (ix_listK (K := K) rfl) (pv 10) pe_int (fun _ _ => rfl)) pa_nil)))) pa_nil)))))
    (pss_one (ps_ret (pe_tup (pa_cons (pv 11) (pa_cons (pe_callBK (cr_sortK (T := T) (IR := rowIR) (en := givenK) (q := q_given_rank) (fun σ => keyfn_df D_given_rank g_given_rank hr (by decide) rowIR_given σ) rowIR_sm hr.units) (by rfl) B.sorted_ (by decide +kernel) (pa_cons (pv 5) pa_nil) (pk_cons (pe_glob (v := .ref q_given_rank) rfl g_given_rank rfl) pk_nil)) pa_nil))))))))))
      , ?_⟩
    walk_at "rd2"
    have hst' := hst.tp
    refine ix_d (i := 0) hst' rfl fun x t => ?_
    obtain rfl := t.num_inv
    intro ma hma
    have e0 : Sm T H (upd H ma (.lst [])) := Sm.new hma
    have h0 : (upd H ma (.lst [])) ma = some (.lst []) := upd_same
    generalize upd H ma (.lst []) = H0 at e0 h0
    have e2s : (2 : Int) - (side : Int) = ((2 - side : Nat) : Int) := by omega
    generalize hos : sideOf (1 - side) ls rs = os at k
    have hix : ([.num m, .tup (ls.map prn), .tup (rs.map prn)] : List NestedKey)[2 - side]? = some (.tup (os.map prn)) := by
      rw [← hos]
      match side, hside with
      | 0, _ => rfl
      | 1, _ => rfl
    have hosl : os.length ≤ 50 ∧ (expd os).length ≤ 50 := by
      rw [← hos]
      match side, hside with
      | 0, _ => exact ⟨so.lr, so.er⟩
      | 1, _ => exact ⟨so.ll, so.el⟩
    have hoty : ∀ p ∈ os, if side = 0 then TyR p.1 else TyL p.1 := by
      rw [← hos]
      match side, hside with
      | 0, _ => exact so.tr
      | 1, _ => exact so.tl
    refine forT (T := T) os prn (fun Q' k' => ?_) (fun i σ' H' => (∃ z6 z7 z8 z9, σ' = [some vj, some vst, some (.int (side : Int)), some vr, some (.int m), some (.ref ma), z6, z7, z8, z9, none, none]) ∧ Sm T H H' ∧ ∃ xs, H' ma = some (.lst xs) ∧ Tps H' xs ((newS j side r (expd (os.take i))).map Row.k)) (fun H' e => ⟨⟨_, _, _, _, rfl⟩, e0.trans e, [], e.lst h0, .nil⟩) (fun i x p σ' H' N hi ts tx pv hN => ?_) fun σ' H' ts pv => ?_
    · walk_at "rd2"
      rw [e2s]
      exact ix_d (Tp.ts e0.ts _ _ hst') hix fun v t => k' v H0 (Sm.refl _ _) t
    · obtain ⟨⟨z6, z7, z8, z9, rfl⟩, e1, xs, hxs, txs⟩ := pv
      refine gT2 tx fun v1 v2 t1 t2 => ?_
      obtain rfl := t2.num_inv
      walk_at "rd2"
      have hpm := hoty p (List.mem_of_getElem? hi)
      have etake : newS j side r (expd (os.take (i + 1))) = newS j side r (expd (os.take i)) ++ (if meetS j side r p.1 = true then List.replicate p.2 (pairS j side r p.1) else []) := by
        rw [List.take_add_one, hi]
        unfold newS expd
        rw [List.flatMap_append, List.filter_append, List.map_append]
        congr 1
        show ((List.replicate p.2 p.1 ++ []).filter _).map _ = _
        rw [List.append_nil]
        by_cases hm : meetS j side r p.1 = true
        · rw [if_pos hm, List.filter_replicate_of_pos hm, List.map_replicate]
        · rw [if_neg hm, List.filter_replicate_of_neg hm]; rfl
      have hvr := Tp.ts e1.ts _ _ hr'
      refine ⟨rfl, ?_⟩
      by_cases hs0 : side = 0
      · rw [if_pos hs0] at hpm hty
        refine ifT (by simp [hs0]) ?_
        intro p1 hp1
        have hva := hvr
        have hvb := t1
        have hjok := jt.jok _ _ hty hpm
        have hra := (jt.okL _ hty).1
        have hrb := (jt.okR _ hpm).1
        have hmeet : meetB j r p.1 = meetS j side r p.1 := by unfold meetS; rw [if_pos hs0]
        have hpair : pairR j r p.1 = pairS j side r p.1 := by unfold pairS; rw [if_pos hs0]
        have e2 : Sm T H' (upd H' p1 (.tup [vr, v1])) := Sm.new hp1
        refine gP upd_same ?_
        generalize upd H' p1 (.tup [vr, v1]) = H2 at e2
        have hjH := Tp.ts ((e1.trans e2).ts) _ _ hj
        walk_at "rd2"
        refine ⟨vj, vr, v1, j, r, p.1, rfl, hjH, Tp.ts e2.ts _ _ hva, Tp.ts e2.ts _ _ hvb, hjok, hra, hrb, fun H3 e3 => ?_⟩
        have e23 := e2.trans e3
        walk_at "rd2"
        rw [hmeet]
        refine ite2 (fun c1 => ?_) (fun c1 => ?_)
        · refine ⟨vj, vr, v1, j, r, p.1, rfl, Tp.ts e3.ts _ _ hjH, Tp.ts e23.ts _ _ hva, Tp.ts e23.ts _ _ hvb, hjok, hra, hrb, fun v4 H4 e4 t4 => ?_⟩
          walk_at "rd2"
          intro p5 hp5
          have e5 : Sm T H4 (upd H4 p5 (.lst [v4])) := Sm.new hp5
          have h5 : (upd H4 p5 (.lst [v4])) p5 = some (.lst [v4]) := upd_same
          generalize upd H4 p5 (.lst [v4]) = H5 at e5 h5
          have hcnt : p.2 ≤ 50 := Nat.le_trans (expd_count (List.mem_of_getElem? hi)) hosl.2
          refine ⟨p5, (p.2 : Int), [v4], rfl, rfl, h5, by omega, by omega, sz_le' (by show 1 * (p.2 : Int).toNat ≤ _; omega), fun p6 hp6 => ?_⟩
          have e6 : Sm T H5 (upd H5 p6 (.lst (List.replicate (p.2 : Int).toNat [v4]).flatten)) := Sm.new hp6
          have h6 : (upd H5 p6 (.lst (List.replicate (p.2 : Int).toNat [v4]).flatten)) p6 = some (.lst (List.replicate p.2 v4)) := by rw [upd_same, rep_flat, Int.toNat_natCast]
          generalize upd H5 p6 (.lst (List.replicate (p.2 : Int).toNat [v4]).flatten) = H6 at e6 h6
          have e26 := ((e23.trans e4).trans e5).trans e6
          have lxs : xs.length ≤ 50 := by
            rw [txs.length, List.length_map]
            unfold newS
            rw [List.length_map]
            refine Nat.le_trans (List.length_filter_le _ _) (Nat.le_trans ?_ hosl.2)
            have : expd os = expd (os.take i) ++ expd (os.drop i) := by unfold expd; rw [← List.flatMap_append, List.take_append_drop]
            rw [this, List.length_append]
            omega
          refine ⟨ma, p6, xs, _, rfl, rfl, e26.lst hxs, h6, sz_le' (by rw [List.length_replicate]; omega), ?_⟩
          have mu : Mu (H6 ma) := by rw [e26.lst hxs]; exact mu_lst
          have ts7 : TS H6 (upd H6 ma (.lst (xs ++ List.replicate p.2 v4))) := TS.mu mu
          refine hN _ _ (e26.ts.trans ts7) ⟨⟨_, _, _, _, rfl⟩, (e1.trans e26).mut hma mu, _, upd_same, ?_⟩
          rw [etake, if_pos c1, List.map_append, List.map_replicate, ← hpair]
          exact (Tps.ts (e26.ts.trans ts7) _ _ txs).append (tps_rep (Tp.ts ((e5.trans e6).ts.trans ts7) _ _ t4) _)
        · refine hN _ _ e23.ts ⟨⟨_, _, _, _, rfl⟩, e1.trans e23, xs, e23.lst hxs, ?_⟩
          rw [etake, if_neg c1, List.append_nil]
          exact Tps.ts e23.ts _ _ txs
      · rw [if_neg hs0] at hpm hty
        refine ifF (by simp [hs0]) ?_
        intro p1 hp1
        have hva := t1
        have hvb := hvr
        have hjok := jt.jok _ _ hpm hty
        have hra := (jt.okL _ hpm).1
        have hrb := (jt.okR _ hty).1
        have hmeet : meetB j p.1 r = meetS j side r p.1 := by unfold meetS; rw [if_neg hs0]
        have hpair : pairR j p.1 r = pairS j side r p.1 := by unfold pairS; rw [if_neg hs0]
        have e2 : Sm T H' (upd H' p1 (.tup [v1, vr])) := Sm.new hp1
        refine gP upd_same ?_
        generalize upd H' p1 (.tup [v1, vr]) = H2 at e2
        have hjH := Tp.ts ((e1.trans e2).ts) _ _ hj
        walk_at "rd2"
        refine ⟨vj, v1, vr, j, p.1, r, rfl, hjH, Tp.ts e2.ts _ _ hva, Tp.ts e2.ts _ _ hvb, hjok, hra, hrb, fun H3 e3 => ?_⟩
        have e23 := e2.trans e3
        walk_at "rd2"
        rw [hmeet]
        refine ite2 (fun c1 => ?_) (fun c1 => ?_)
        · refine ⟨vj, v1, vr, j, p.1, r, rfl, Tp.ts e3.ts _ _ hjH, Tp.ts e23.ts _ _ hva, Tp.ts e23.ts _ _ hvb, hjok, hra, hrb, fun v4 H4 e4 t4 => ?_⟩
          walk_at "rd2"
          intro p5 hp5
          have e5 : Sm T H4 (upd H4 p5 (.lst [v4])) := Sm.new hp5
          have h5 : (upd H4 p5 (.lst [v4])) p5 = some (.lst [v4]) := upd_same
          generalize upd H4 p5 (.lst [v4]) = H5 at e5 h5
          have hcnt : p.2 ≤ 50 := Nat.le_trans (expd_count (List.mem_of_getElem? hi)) hosl.2
          refine ⟨p5, (p.2 : Int), [v4], rfl, rfl, h5, by omega, by omega, sz_le' (by show 1 * (p.2 : Int).toNat ≤ _; omega), fun p6 hp6 => ?_⟩
          have e6 : Sm T H5 (upd H5 p6 (.lst (List.replicate (p.2 : Int).toNat [v4]).flatten)) := Sm.new hp6
          have h6 : (upd H5 p6 (.lst (List.replicate (p.2 : Int).toNat [v4]).flatten)) p6 = some (.lst (List.replicate p.2 v4)) := by rw [upd_same, rep_flat, Int.toNat_natCast]
          generalize upd H5 p6 (.lst (List.replicate (p.2 : Int).toNat [v4]).flatten) = H6 at e6 h6
          have e26 := ((e23.trans e4).trans e5).trans e6
          have lxs : xs.length ≤ 50 := by
            rw [txs.length, List.length_map]
            unfold newS
            rw [List.length_map]
            refine Nat.le_trans (List.length_filter_le _ _) (Nat.le_trans ?_ hosl.2)
            have : expd os = expd (os.take i) ++ expd (os.drop i) := by unfold expd; rw [← List.flatMap_append, List.take_append_drop]
            rw [this, List.length_append]
            omega
          refine ⟨ma, p6, xs, _, rfl, rfl, e26.lst hxs, h6, sz_le' (by rw [List.length_replicate]; omega), ?_⟩
          have mu : Mu (H6 ma) := by rw [e26.lst hxs]; exact mu_lst
          have ts7 : TS H6 (upd H6 ma (.lst (xs ++ List.replicate p.2 v4))) := TS.mu mu
          refine hN _ _ (e26.ts.trans ts7) ⟨⟨_, _, _, _, rfl⟩, (e1.trans e26).mut hma mu, _, upd_same, ?_⟩
          rw [etake, if_pos c1, List.map_append, List.map_replicate, ← hpair]
          exact (Tps.ts (e26.ts.trans ts7) _ _ txs).append (tps_rep (Tp.ts ((e5.trans e6).ts.trans ts7) _ _ t4) _)
        · refine hN _ _ e23.ts ⟨⟨_, _, _, _, rfl⟩, e1.trans e23, xs, e23.lst hxs, ?_⟩
          rw [etake, if_neg c1, List.append_nil]
          exact Tps.ts e23.ts _ _ txs
    · obtain ⟨⟨z6, z7, z8, z9, rfl⟩, e1, xs, hxs, txs⟩ := pv
      walk_at "rd2"
      rw [List.take_length] at txs
      obtain ⟨a, x1, x2, rfl, rda, pt1, pt2⟩ := hst.sm e1
      have dRow : ∀ q : Row, q.ok → q.k.depth ≤ 8 := fun q hq => by
        have h2 := depth_atoms hq.1
        show max 0 (max 0 (max (NestedKey.depthAll q.vs + 1) 0)) + 1 ≤ 8
        omega
      have okr : r.ok := by
        by_cases hs0 : side = 0
        · rw [if_pos hs0] at hty; exact (jt.okL _ hty).1
        · rw [if_neg hs0] at hty; exact (jt.okR _ hty).1
      obtain ⟨b, zs, rfl, hb, hz⟩ := hr'.tup_inv
      refine ⟨a, _, 1, x1, rfl, rfl, .inl rda, rfl, ?_⟩
      refine dictN_pts (T := T) pt1 so.nl (by omega) (fun p hp => dRow _ (jt.okL _ (so.tl p hp)).1) fun d1 H1 es1 s1 f1 dE1 k1 => ?_
      refine ⟨a, _, 2, x2, rfl, rfl, .inl (s1.rd rda), rfl, ?_⟩
      refine dictN_pts (T := T) (pt2.sm s1) so.nr (by omega) (fun p hp => dRow _ (jt.okR _ (so.tr p hp)).1) fun d2 H2 es2 s2 f2 dE2 k2 => ?_
      have n12 : d1 ≠ d2 := fun z => by rw [← z, dE1.at_] at f2; cases f2
      intro p hp
      have e3 : Sm T H2 (upd H2 p (.lst [.ref d1, .ref d2])) := Sm.new hp
      have h3 : (upd H2 p (.lst [.ref d1, .ref d2])) p = some (.lst [.ref d1, .ref d2]) := upd_same
      generalize upd H2 p (.lst [.ref d1, .ref d2]) = H3 at e3 h3
      have D1 := (dE1.sm s2).sm e3
      have D2 := dE2.sm e3
      have e13 : Sm T H' H3 := (s1.trans s2).trans e3
      have ep2 : p ≠ d2 := fun z => by rw [z, dE2.at_] at hp; cases hp
      have ep1 : p ≠ d1 := fun z => by rw [z, (dE1.sm s2).at_] at hp; cases hp
      obtain ⟨ds, ls0, es0, hds, dE0, k0, nd0, l0, fr0, ne0, hput⟩ : ∃ ds ls0 es0, atI [V.ref d1, V.ref d2] (side : Int) = some (.ref ds) ∧ DictE P w H3 ds es0 ∧ kvsOf es0 = kvR ls0 ∧ (ls0.map (·.1)).Nodup ∧ ls0.length ≤ 40 ∧ Fresh H' ds ∧ p ≠ ds ∧
          (∀ es', DictE P w (upd H3 ds (DN P w ds es')) ds es' → kvsOf es' = kvR (bumpL ls0 r) → ∃ es3 es4, DictE P w (upd H3 ds (DN P w ds es')) d1 es3 ∧ DictE P w (upd H3 ds (DN P w ds es')) d2 es4 ∧ kvsOf es3 = kvR (if side = 0 then bumpL ls r else ls) ∧ kvsOf es4 = kvR (if side = 0 then rs else bumpL rs r)) := by
        by_cases hs0 : side = 0
        · subst hs0
          refine ⟨d1, ls, es1, rfl, D1, k1, so.nl, l40, fun o ho => (by rw [f1] at ho; cases ho), ep1, fun es' h h' => ?_⟩
          exact ⟨es', es2, h, D2.xb (XBut.upd D1.mu) (Ne.symm n12), h', k2⟩
        · obtain rfl : side = 1 := by omega
          refine ⟨d2, rs, es2, rfl, D2, k2, so.nr, r40, fresh_of s1 f2, ep2, fun es' h h' => ?_⟩
          exact ⟨es1, es', D1.xb (XBut.upd D2.mu) n12, h, k1, h'⟩
      have e13' := e1.trans e13
      have hrb := Tp.ts e13'.ts _ _ hr'
      refine ⟨p, _, side, .ref ds, rfl, rfl, .inl (.inl h3), hds, ?_⟩
      refine ⟨ds, rfl, ⟨es0, dE0⟩, es0, dE0, b, rfl, r.k, hrb, dRow _ okr, (cntR ls0 r : Int), by rw [k0]; exact val_cnt nd0 r, ?_⟩
      refine ⟨p, _, side, .ref ds, rfl, rfl, .inl (.inl h3), hds, ?_⟩
      have lk0 : es0.length = ls0.length := by have := congrArg List.length k0; unfold kvsOf kvR at this; simpa using this
      refine ⟨ds, rfl, b, rfl, es0, dE0, r.k, hrb, dRow _ okr, sz_lt' (by omega), ?_⟩
      obtain ⟨es3, es4, D3, D4, k3, k4⟩ := hput _ (dE0.put (v := .int ((cntR ls0 r : Int) + 1)) hrb (dRow _ okr)) (by rw [storeE_kvs, k0]; exact kv_bump nd0 r)
      have e14 : Sm T H' (upd H3 ds (DN P w ds (storeE es0 r.k b (.int ((cntR ls0 r : Int) + 1))))) := e13.mutF fr0 dE0.mu
      have h4 : (upd H3 ds (DN P w ds (storeE es0 r.k b (.int ((cntR ls0 r : Int) + 1))))) p = some (.lst [.ref d1, .ref d2]) := by rw [upd_ne ne0]; exact h3
      generalize upd H3 ds (DN P w ds (storeE es0 r.k b (.int ((cntR ls0 r : Int) + 1)))) = H4 at e14 h4 D3 D4
      generalize hls' : (if side = 0 then bumpL ls r else ls) = ls' at k3
      generalize hrs' : (if side = 0 then rs else bumpL rs r) = rs' at k4
      have fl : (ls'.map (·.1)).Nodup ∧ ls'.length ≤ ls.length + 1 ∧ (∀ p ∈ ls', TyL p.1) ∧ (expd ls').Perm (if side = 0 then r :: expd ls else expd ls) := by
        rw [← hls']
        by_cases hs0 : side = 0
        · rw [if_pos hs0, if_pos hs0]
          rw [if_pos hs0] at hty
          obtain ⟨b1, b2, b3⟩ := bump_keys (r := r) so.nl
          exact ⟨b1, b3, fun p hp => (b2 p hp).elim (fun e => e ▸ hty) fun ⟨q, hq, e⟩ => e ▸ so.tl q hq, expd_bump so.nl⟩
        · rw [if_neg hs0, if_neg hs0]
          exact ⟨so.nl, by omega, so.tl, .refl _⟩
      have fr : (rs'.map (·.1)).Nodup ∧ rs'.length ≤ rs.length + 1 ∧ (∀ p ∈ rs', TyR p.1) ∧ (expd rs').Perm (if side = 0 then expd rs else r :: expd rs) := by
        rw [← hrs']
        by_cases hs0 : side = 0
        · rw [if_pos hs0, if_pos hs0]
          exact ⟨so.nr, by omega, so.tr, .refl _⟩
        · rw [if_neg hs0, if_neg hs0]
          rw [if_neg hs0] at hty
          obtain ⟨b1, b2, b3⟩ := bump_keys (r := r) so.nr
          exact ⟨b1, b3, fun p hp => (b2 p hp).elim (fun e => e ▸ hty) fun ⟨q, hq, e⟩ => e ▸ so.tr q hq, expd_bump so.nr⟩
      clear hls' hrs' hput
      refine ⟨p, _, (0 : Nat), .ref d1, rfl, rfl, .inl (.inl h4), rfl, ?_⟩
      have ej4 := Tp.ts (e1.trans e14).ts _ _ hj
      refine ⟨vj, 0, d1, _, j.l, es3, ls', rfl, ej4, rfl, (e1.trans e14).2 hT, D3, k3, fl.1, fun p hp => jt.okL _ (fl.2.2.1 p hp), by omega, ?_, fun v5 H5 ls5 e5 pm5 t5 => ?_⟩
      · intro d hd d' hd'
        obtain ⟨q, hq, rfl⟩ := List.mem_map.mp hd
        obtain ⟨q', hq', rfl⟩ := List.mem_map.mp hd'
        exact jt.alL _ _ (fl.2.2.1 q hq) (fl.2.2.1 q' hq')
      refine ⟨p, _, (1 : Nat), .ref d2, rfl, rfl, .inl (.inl (e5.lst h4)), rfl, ?_⟩
      refine ⟨vj, 1, d2, _, j.r, es4, rs', rfl, Tp.ts e5.ts _ _ ej4, rfl, ((e1.trans e14).trans e5).2 hT, D4.sm e5, k4, fr.1, fun p hp => jt.okR _ (fr.2.2.1 p hp), by omega, ?_, fun v6 H6 rs6 e6 pm6 t6 => ?_⟩
      · intro d hd d' hd'
        obtain ⟨q, hq, rfl⟩ := List.mem_map.mp hd
        obtain ⟨q', hq', rfl⟩ := List.mem_map.mp hd'
        exact jt.alR _ _ (fr.2.2.1 q hq) (fr.2.2.1 q' hq')
      intro p7 hp7
      have e7 : Sm T H6 (upd H6 p7 (.tup [.int m, v5, v6])) := Sm.new hp7
      have s7 : StR (upd H6 p7 (.tup [.int m, v5, v6])) (.ref p7) m ls5 rs6 := ⟨p7, v5, v6, rfl, .inl upd_same, (t5.sm e6).sm e7, t6.sm e7⟩
      generalize upd H6 p7 (.tup [.int m, v5, v6]) = H7 at e7 s7
      walk_at "rd2"
      have e47 := (e14.trans e5).trans (e6.trans e7)
      have hmem : ∀ x ∈ newS j side r (expd os), ∃ a b, TyL a ∧ TyR b ∧ x = pairR j a b := fun x hx => by
        unfold newS at hx
        obtain ⟨o, ho, rfl⟩ := List.mem_map.mp hx
        have ho := (List.mem_filter.mp ho).1
        obtain ⟨q, hq, ho⟩ := List.mem_flatMap.mp ho
        obtain rfl := (List.mem_replicate.mp ho).2
        have h2 := hoty q hq
        unfold pairS
        by_cases hs0 : side = 0
        · rw [if_pos hs0] at h2 hty ⊢
          exact ⟨_, _, hty, h2, rfl⟩
        · rw [if_neg hs0] at h2 hty ⊢
          exact ⟨_, _, h2, hty, rfl⟩
      have hnl : (newS j side r (expd os)).length ≤ 50 := by
        unfold newS
        rw [List.length_map]
        exact Nat.le_trans (List.length_filter_le _ _) hosl.2
      have hok : ∀ x ∈ newS j side r (expd os), x.ok := fun x hx => by
        obtain ⟨a, b, ha, hb, rfl⟩ := hmem x hx
        exact jt.pok a b ha hb
      have prr : Paired (rowIR H7) xs (newS j side r (expd os)) := by
        have key : ∀ {xs : List V} {as : List Row}, Tps H7 xs (as.map Row.k) → (∀ x ∈ as, x.ok) → Paired (rowIR H7) xs as := by
          intro xs as
          induction as generalizing xs with
          | nil => intro h _; obtain rfl := h.nil_inv; exact .nil
          | cons a as ih =>
            intro h hk
            obtain ⟨v, ws, rfl, tv, tw⟩ := h.cons_inv
            exact .cons ⟨tv, hk a List.mem_cons_self⟩ (ih tw fun x hx => hk x (List.mem_cons_of_mem _ hx))
        exact key (Tps.ts e47.ts _ _ txs) hok
      refine ⟨ma, xs, _, rfl, rfl, e47.lst hxs, prr, by omega, ?_, .inl fun d' hd' => ?_, fun x hx => ?_, fun p8 H8 ys e8 hp8 pr8 => ?_⟩
      · intro d hd d' hd'
        obtain ⟨q, hq, rfl⟩ := List.mem_map.mp hd
        obtain ⟨q', hq', rfl⟩ := List.mem_map.mp hd'
        obtain ⟨a1, b1, ha1, hb1, rfl⟩ := hmem q hq
        obtain ⟨a2, b2, ha2, hb2, rfl⟩ := hmem q' hq'
        exact jt.alM _ _ _ _ ha1 hb1 ha2 hb2
      · obtain ⟨q, _, rfl⟩ := List.mem_map.mp hd'
        exact ⟨_, _, rfl⟩
      · rw [depth_data]
        exact Nat.le_trans (depth_given (hok x hx).1) (by omega)
      · have e9 : Sm T H8 (upd H8 p8 (.lst ys)) := Sm.new hp8
        have l9 : LsK (upd H8 p8 (.lst ys)) (.ref p8) (((newS j side r (expd os)).mergeSort (PySem.W.dataLe false fun a => (givenK a).data)).map Row.k) := by
          refine ⟨p8, ys, rfl, upd_same, ?_⟩
          have key : ∀ {xs : List V} {ps : List Row}, Paired (rowIR H8) xs ps → Tps (upd H8 p8 (.lst ys)) xs (ps.map Row.k) := by
            intro xs ps h
            induction h with
            | nil => exact .nil
            | cons r _ ih => exact .cons (Tp.ts e9.ts _ _ r.1) ih
          exact key pr8
        generalize upd H8 p8 (.lst ys) = H9 at e9 l9
        intro p10 hp10
        have e10 : Sm T H9 (upd H9 p10 (.tup [V.ref p7, V.ref p8])) := Sm.new hp10
        have e810 := (e8.trans e9).trans e10
        refine k (.ref p10) _ ((e1.trans e47).trans e810) ⟨p10, _, _, rfl, .inl upd_same, m, _, _, _, s7.sm e810, lsK_sm e10 l9, rfl, ?_, ?_, (expd_perm pm5).trans fl.2.2.2, (expd_perm pm6).trans fr.2.2.2, by rw [pm5.length_eq]; exact fl.2.1, by rw [pm6.length_eq]; exact fr.2.1, fun p hp => fl.2.2.1 p (pm5.mem_iff.mp hp), fun p hp => fr.2.2.1 p (pm6.mem_iff.mp hp), List.mergeSort_perm _ _⟩
        · exact (pm5.map _).nodup_iff.mpr fl.1
        · exact (pm6.map _).nodup_iff.mpr fr.1
end K67
end
/-! ## K67J6 -/
section
set_option maxHeartbeats 4000000
/-! K67J6: the whole, thing by thing -/
namespace K67
open PySem PySem.Spec PyProof.Rows L2 LamX NdefX
local macro_rules | `(tactic| walk_at "sm") => `(tactic| first | assumption | exact Sm.refl _ _ | (refine Sm.trans ?_ (by assumption); walk_at "sm"))
local macro_rules | `(tactic| walk_at "ts") => `(tactic| first | assumption | exact TS.refl _ | (refine TS.trans ?_ (by assumption); walk_at "ts") | (refine TS.trans ?_ (Sm.ts (by assumption)); walk_at "ts"))
local macro_rules | `(tactic| walk_at "tp") => `(tactic| first | assumption | exact Tp.int _ | exact Tp.str _ | exact Tp.non | (refine Tp.ts (H := ?_) ?_ _ _ (by assumption); walk_at "ts"))
local macro_rules | `(tactic| walk_at "tps") => `(tactic| first | assumption | exact Tps.nil | (refine Tps.cons ?_ ?_; · walk_at "tp"; · walk_at "tps") | (refine Tps.ts (H := ?_) ?_ _ _ (by assumption); walk_at "ts"))
local macro_rules | `(tactic| walk_at "rd") => `(tactic| try simp only [rMax2, and_assoc, tYes, tSeq, tIfS, tRet, tNext, tTest, tB, tOp, tUn, tVar, tC, tTup, tLst, tCons, tNil, tIf, tCB, tCall, tBM, tBM0, tAsg, gName, gCons, gNil, gSub, tDrop, tPar, tPar3, tAug, tAnd, tOr, tNot, tAndV, tOrV, tNotV, tChain, tSl, tPart, tNoPart, rI0, rI, rU, rEq, rNe, L2.start, wipe, sz0, sz1, sz2, sz3, sz4, sz5, sz6, List.map_cons, List.map_nil, List.length_cons, List.length_nil, List.cons_append, List.nil_append, List.append_nil, List.getElem?_cons_zero, List.getElem?_cons_succ, List.set_cons_zero, List.set_cons_succ, List.replicate_zero, List.replicate_succ, Option.some.injEq, V.bl.injEq, V.int.injEq, V.str.injEq, List.cons.injEq, and_true, true_and, exists_eq_left', exists_eq_left, exists_eq', exists_eq, exists_and_left, Nat.reduceSub, Nat.reduceAdd, Nat.reduceLeDiff, decide_true, decide_false, if_true, if_false, Bool.false_eq_true, reduceIte])
local macro_rules | `(tactic| walk_at "rd2") => `(tactic| try simp only [tDGet, sDPut, tDNewK, tNNew, tNGet2, tNSetd, tNGet, sNPut, tTupF, tCKw, tDead, sDead, tDispN, tPairs, StX.tStar, rNeDN, rNeDN2, rMax2, and_assoc, tYes, tSeq, tIfS, tRet, tNext, tTest, tB, tOp, tUn, tVar, tC, tTup, tLst, tCons, tNil, tIf, tCB, tCall, tBM, tBM0, tAsg, gName, gCons, gNil, gSub, tDrop, tPar, tPar3, tAug, tAnd, tOr, tNot, tAndV, tOrV, tNotV, tChain, tSl, tPart, tNoPart, rI0, rI, rU, rEq, rNe, L2.start, wipe, sz0, sz1, sz2, sz3, sz4, sz5, sz6, List.map_cons, List.map_nil, List.length_cons, List.length_nil, List.cons_append, List.nil_append, List.append_nil, List.getElem?_cons_zero, List.getElem?_cons_succ, List.set_cons_zero, List.set_cons_succ, List.replicate_zero, List.replicate_succ, Option.some.injEq, V.bl.injEq, V.int.injEq, V.str.injEq, List.cons.injEq, and_true, true_and, exists_eq_left', exists_eq_left, exists_eq', exists_eq, exists_and_left, Nat.reduceSub, Nat.reduceAdd, Nat.reduceLeDiff, decide_true, decide_false, if_true, if_false, Bool.false_eq_true, reduceIte])

/-- one thing that comes: a row on a side, or a mark -/
inductive Th where
  | row (s : Nat) (r : Row)
  | mark (m : Int)
def Th.k : Th → NestedKey
  | .row s r => .tup [.text "row", .num (s : Int), r.k]
  | .mark m => .tup [.text "mark", .num m]
def keepR (d m : Int) (l : List Row) : List Row := l.filter fun r => decide (m ≤ r.t + d) && decide (m < 1000000000)
theorem expd_keep (d m : Int) (ls : List RN) : expd (keepM d m ls) = keepR d m (expd ls) := by
  induction ls with
  | nil => rfl
  | cons p ls ih =>
    show expd (List.filter _ _) = keepR d m (List.replicate p.2 p.1 ++ expd ls)
    unfold keepR at ih ⊢
    rw [List.filter_append, ← ih, List.filter_cons]
    by_cases h : (decide (m ≤ p.1.t + d) && decide (m < 1000000000)) = true
    · rw [if_pos h, List.filter_replicate_of_pos (p := fun r : Row => decide (m ≤ r.t + d) && decide (m < 1000000000)) h]
      rfl
    · rw [if_neg h, List.filter_replicate_of_neg (p := fun r : Row => decide (m ≤ r.t + d) && decide (m < 1000000000)) h]
      exact (List.nil_append _).symm
/-- what has come on either side and is not yet let go, and what is made -/
structure Wv where
  L : List Row
  R : List Row
  F : List Row
def Wv.step (j : Jn) (x : Wv) : Th → Wv
  | .row s r => ⟨if s = 0 then r :: x.L else x.L, if s = 0 then x.R else r :: x.R, x.F ++ newS j s r (if s = 0 then x.R else x.L)⟩
  | .mark m => ⟨keepR j.ahead m x.L, keepR j.back m x.R, x.F⟩
def Wv.all (j : Jn) (ts : List Th) : Wv := ts.foldl (Wv.step j) ⟨[], [], []⟩
def ThOk (TyL TyR : Row → Prop) : Th → Prop
  | .row s r => s ≤ 1 ∧ if s = 0 then TyL r else TyR r
  | .mark _ => True
theorem newS_perm {j : Jn} {s : Nat} {r : Row} {a b : List Row} (h : a.Perm b) : (newS j s r a).Perm (newS j s r b) := (h.filter _).map _
theorem keepR_perm {d m : Int} {a b : List Row} (h : a.Perm b) : (keepR d m a).Perm (keepR d m b) := h.filter _
/-- the state stands for these rows -/
structure WvR (j : Jn) (TyL TyR : Row → Prop) (n : Nat) (x : Wv) (ls rs : List RN) : Prop where
  nl : (ls.map (·.1)).Nodup
  nr : (rs.map (·.1)).Nodup
  tl : ∀ p ∈ ls, TyL p.1
  tr : ∀ p ∈ rs, TyR p.1
  ll : ls.length ≤ n
  lr : rs.length ≤ n
  pl : (expd ls).Perm x.L
  pr : (expd rs).Perm x.R
  lL : x.L.length ≤ n
  lR : x.R.length ≤ n
  lF : x.F.length ≤ n * n
theorem newS_len (j : Jn) (s : Nat) (r : Row) (a : List Row) : (newS j s r a).length ≤ a.length := by
  unfold newS
  rw [List.length_map]
  exact List.length_filter_le _ _
theorem sq_step (n : Nat) : n * n + n ≤ (n + 1) * (n + 1) := by
  rw [Nat.add_mul, Nat.mul_add]
  omega
theorem wv_row {j : Jn} {TyL TyR : Row → Prop} {n s : Nat} {x : Wv} {ls rs ls' rs' : List RN} {r : Row} (h : WvR j TyL TyR n x ls rs) (hs : s ≤ 1) (n1 : (ls'.map (·.1)).Nodup) (n2 : (rs'.map (·.1)).Nodup) (p1 : (expd ls').Perm (if s = 0 then r :: expd ls else expd ls)) (p2 : (expd rs').Perm (if s = 0 then expd rs else r :: expd rs))
    (l1 : ls'.length ≤ ls.length + 1) (l2 : rs'.length ≤ rs.length + 1) (t1 : ∀ p ∈ ls', TyL p.1) (t2 : ∀ p ∈ rs', TyR p.1) : WvR j TyL TyR (n + 1) (x.step j (.row s r)) ls' rs' := by
  have h1 := h.ll
  have h2 := h.lr
  have h3 := h.lL
  have h4 := h.lR
  have h5 := h.lF
  have h6 := sq_step n
  match s, hs with
  | 0, _ =>
    refine ⟨n1, n2, t1, t2, by omega, by omega, p1.trans (h.pl.cons r), p2.trans h.pr, by show (r :: x.L).length ≤ _; rw [List.length_cons]; omega, by show x.R.length ≤ _; omega, ?_⟩
    show (x.F ++ newS j 0 r x.R).length ≤ _
    rw [List.length_append]
    have := newS_len j 0 r x.R
    omega
  | 1, _ =>
    refine ⟨n1, n2, t1, t2, by omega, by omega, p1.trans h.pl, p2.trans (h.pr.cons r), by show x.L.length ≤ _; omega, by show (r :: x.R).length ≤ _; rw [List.length_cons]; omega, ?_⟩
    show (x.F ++ newS j 1 r x.L).length ≤ _
    rw [List.length_append]
    have := newS_len j 1 r x.L
    omega
theorem wv_mark {j : Jn} {TyL TyR : Row → Prop} {n : Nat} {x : Wv} {ls rs : List RN} {m : Int} (h : WvR j TyL TyR n x ls rs) : WvR j TyL TyR (n + 1) (x.step j (.mark m)) (keepM j.ahead m ls) (keepM j.back m rs) := by
  have h1 := h.ll
  have h2 := h.lr
  have h3 := h.lL
  have h4 := h.lR
  have h5 := h.lF
  have h6 := sq_step n
  have f1 : (keepM j.ahead m ls).length ≤ ls.length := List.length_filter_le _ _
  have f2 : (keepM j.back m rs).length ≤ rs.length := List.length_filter_le _ _
  have f3 : (keepR j.ahead m x.L).length ≤ x.L.length := List.length_filter_le _ _
  have f4 : (keepR j.back m x.R).length ≤ x.R.length := List.length_filter_le _ _
  refine ⟨h.nl.sublist (List.filter_sublist.map _), h.nr.sublist (List.filter_sublist.map _), fun p hp => h.tl p (List.mem_filter.mp hp).1, fun p hp => h.tr p (List.mem_filter.mp hp).1, by omega, by omega, ?_, ?_, by show (keepR j.ahead m x.L).length ≤ _; omega, by show (keepR j.back m x.R).length ≤ _; omega, by show x.F.length ≤ _; omega⟩
  · rw [expd_keep]
    exact keepR_perm h.pl
  · rw [expd_keep]
    exact keepR_perm h.pr
theorem wv_take {j : Jn} {ts : List Th} {i : Nat} {t : Th} (h : ts[i]? = some t) : Wv.all j (ts.take (i + 1)) = (Wv.all j (ts.take i)).step j t := by
  unfold Wv.all
  rw [List.take_add_one, h, List.foldl_append]
  rfl
theorem StR.upd {H : Hp} {p : Addr} {o : HO} {v : V} {m : Int} {ls rs : List RN} (mu : Mu (H p)) (h : StR H v m ls rs) : StR (L2.upd H p o) v m ls rs := let ⟨a, x1, x2, h1, h2, h3, h4⟩ := h
  ⟨a, x1, x2, h1, (TS.mu mu : TS H (L2.upd H p o)) _ _ h2, h3.xb (XBut.upd mu) mu, h4.xb (XBut.upd mu) mu⟩
section
variable (P : Program) (w : World) (T : List (Addr × Str))
def sp_woven : Sp := fun vs H Q _ => ∃ (vj vt : V) (j : Jn) (ts : List Th) (TyL TyR : Row → Prop), vs = [vj, vt] ∧ Tp H vj j.k ∧ LsK H vt (ts.map Th.k) ∧ Tabs T H ∧ JT j TyL TyR ∧ (∀ t ∈ ts, ThOk TyL TyR t) ∧ ts.length ≤ 35 ∧
  ∀ p H' va vf (F : List Row), Sm T H H' → Rd H' p (.tup [va, vf]) → LsK H' vf (F.map Row.k) → F.Perm (Wv.all j ts).F → Q (.ref p) H'
end
variable {P : Program} {w : World} {K : PySem.W.Frag} {mg : Str → Option Value} {base : Heap} {T : List (Addr × Str)} {f : Addr} {fd : FuncData}
abbrev N_woven : List Str := ["join", "things", "state", "found", "thing", "made"]
theorem sc_woven : FnScope N_woven ["join", "things"] (defScope s_woven) := ⟨rfl, rfl, rfl, by decide +kernel, rfl, by decide +kernel, by decide +kernel⟩
theorem ok_woven (B : Bs mg) (D_fresh : Df P w K mg base "fresh" 1 [] (sp_fresh T)) (D_put : Df P w K mg base "put" 8 ["join", "state", "side", "row"] (sp_put T)) (D_marked : Df P w K mg base "marked" 1 ["join", "state", "mark"] (sp_marked T)) (hg : mg "woven" = some (.ref f)) (F : FnP K "woven" s_woven f fd) : Df P w K mg base "woven" 9 ["join", "things"] (sp_woven T) := by
  refine df_mk hg F sc_woven (fun vs H Q E h => ?_) (fun _ _ _ _ _ _ us hl => match us, hl with | [_, _], _ => rfl) (fun cdv A outer s H vs Q E hr h => ?_)
  · obtain ⟨_, _, _, _, _, _, rfl, _⟩ := h
    rfl
  · obtain ⟨vj, vt, j, ts, TyL, TyR, rfl, hj, hvt, hT, jt, hty, l35, k⟩ := h
    refine ⟨_,
      (pss_cons (ps_par (i := 2) (j := 3) (by rfl) sc_woven.nd rfl rfl (by decide) rfl rfl (pa_cons (pe_df0 D_fresh hr) (pa_cons (pe_lst pa_nil) pa_nil)) (by rfl))
    (pss_cons (ps_for PassesOwn.never rfl (pi_listK (K := K) rfl (pv 1)) (pg_name (i := 4) sc_woven.nd rfl (by first | exact Or.inl rfl | exact Or.inr rfl))
    (pss_cons (ps_if (pt_cmpR op_eq (pe_ix (ix_tupK (K := K) rfl) (pv 4) pe_int (fun _ _ => rfl)) pe_str (nomark _)) (pss_one (ps_asg (pe_df D_put hr (pa_cons (pv 0) (pa_cons (pv 2) (pa_cons (pe_ix (ix_tupK (K := K) rfl) (pv 4) pe_int (fun _ _ => rfl)) (pa_cons (pe_ix (ix_tupK (K := K) rfl) (pv 4) pe_int (fun _ _ => rfl)) pa_nil))))) (pg_tupK (n := 2) (K := K) rfl rfl (pgs_cons (pg_name (i := 2) sc_woven.nd rfl (by first | exact Or.inl rfl | exact Or.inr rfl)) (pgs_cons (pg_name (i := 5) sc_woven.nd rfl (by first | exact Or.inl rfl | exact Or.inr rfl)) pgs_nil)))))
    (pss_one (ps_asg (pe_df D_marked hr (pa_cons (pv 0) (pa_cons (pv 2) (pa_cons (pe_ix (ix_tupK (K := K) rfl) (pv 4) pe_int (fun _ _ => rfl)) pa_nil)))) (pg_tupK (n := 2) (K := K) rfl rfl (pgs_cons (pg_name (i := 2) sc_woven.nd rfl (by first | exact Or.inl rfl | exact Or.inr rfl)) (pgs_cons (pg_name (i := 5) sc_woven.nd rfl (by first | exact Or.inl rfl | exact Or.inr rfl)) pgs_nil))))))
    (pss_one (ps_aug (i := 3) sc_woven.nd rfl (by first | exact Or.inl rfl | exact Or.inr rfl) (pv 5) iop_ext))))
    (pss_one (ps_ret (pe_tup (pa_cons (pv 2) (pa_cons (pv 3) pa_nil)))))))
      , ?_⟩
    walk_at "rd2"
    obtain ⟨ta, xt, rfl, ht0, tt⟩ := hvt
    refine ⟨rfl, fun v1 H1 e1 s1 p hp => ?_⟩
    have e2 : Sm T H1 (upd H1 p (.lst [])) := Sm.new hp
    have h2 : (upd H1 p (.lst [])) p = some (.lst []) := upd_same
    have hpH : Fresh H p := fresh_of e1 hp
    have pta : ta ≠ p := fun z => by rw [← z, e1.lst ht0] at hp; cases hp
    have e12 := e1.trans e2
    generalize upd H1 p (.lst []) = H2 at e2 h2 e12
    have ht := e12.lst ht0
    have tt := Tps.ts e12.ts _ _ tt
    have prt : ∀ {xs : List V} {as : List Th}, Tps H2 xs (as.map Th.k) → Paired ((fun (H : Hp) v (t : Th) => Tp H v t.k) H2) xs as := by
      intro xs as
      induction as generalizing xs with
      | nil => intro h; obtain rfl := h.nil_inv; exact .nil
      | cons a as ih => intro h; obtain ⟨v, ws, rfl, tv, tw⟩ := h.cons_inv; exact .cons tv (ih tw)
    refine forL (IR := fun H v (t : Th) => Tp H v t.k) ts (fun Q' k' => by walk_at "rd2"; exact k') ht (prt tt) (fun i σ' H' => (∃ vst z5 z6, σ' = [some vj, some (.ref ta), some vst, some (.ref p), z5, z6] ∧ ∃ m ls rs, StR H' vst m ls rs ∧ WvR j TyL TyR i (Wv.all j (ts.take i)) ls rs) ∧ Sm T H H' ∧ H' ta = some (.lst xt) ∧
      ∃ xs, ∃ F : List Row, H' p = some (.lst xs) ∧ Tps H' xs (F.map Row.k) ∧ F.Perm (Wv.all j (ts.take i)).F) ?_ (fun i σ' H' _ h => h.2.2.1) (fun H' v b t h => Tp.ts t _ _ h) (fun i x t σ' H' N hi tsx tx pv hN => ?_) fun σ' H' tsx pv => ?_
    · exact ⟨⟨v1, none, none, rfl, 0, [], [], s1.sm e2, List.nodup_nil, List.nodup_nil, fun p hp => (by cases hp), fun p hp => (by cases hp), Nat.le_refl _, Nat.le_refl _, .refl _, .refl _, Nat.le_refl _, Nat.le_refl _, Nat.le_refl _⟩, e12, ht, [], [], h2, .nil, .refl _⟩
    · obtain ⟨⟨vst, z5, z6, rfl, m, ls, rs, sr, wr⟩, e3, ht3, xs, F, hxs, txs, pF⟩ := pv
      have hil : i < ts.length := (List.getElem?_eq_some_iff.mp hi).1
      have htk := hty t (List.mem_of_getElem? hi)
      have g1 := wr.ll
      have g2 := wr.lr
      have g3 := wr.lL
      have g4 := wr.lR
      have g5 := wr.lF
      have lel : (expd ls).length ≤ i := by rw [wr.pl.length_eq]; exact g3
      have ler : (expd rs).length ≤ i := by rw [wr.pr.length_eq]; exact g4
      have hxl : xs.length ≤ 35 * 35 := by
        rw [txs.length, List.length_map, pF.length_eq]
        exact Nat.le_trans g5 (Nat.mul_le_mul (by omega) (by omega))
      walk_at "rd2"
      cases t with
      | row s r =>
        refine ix_d (i := 0) tx rfl fun y ty => ?_
        obtain rfl := ty.text_inv
        walk_at "rd2"
        refine ⟨rfl, ?_⟩
        refine ix_d (i := 1) tx rfl fun y ty => ?_
        obtain rfl := ty.num_inv
        refine ix_d (i := 2) tx rfl fun y ty => ?_
        refine ⟨vj, vst, y, s, m, j, ls, rs, r, TyL, TyR, rfl, htk.1, Tp.ts e3.ts _ _ hj, sr, ty, e3.2 hT, jt, ⟨wr.nl, wr.nr, wr.tl, wr.tr, by omega, by omega, by omega, by omega⟩, htk.2, by omega, by omega, fun v4 H4 e4 ⟨p4, va, vm, ev, rd, m', ls', rs', made, sr', lm, c1, c2, c3, c4, c5, c6, c7, c8, c9, c10⟩ => ?_⟩
        subst ev
        refine ⟨p4, _, rfl, .inl rd, ?_⟩
        walk_at "rd2"
        obtain ⟨ma, ms, rfl, hm, tm⟩ := lm
        have wr' := wv_row wr htk.1 c2 c3 c4 c5 c6 c7 c8 c9
        rw [← wv_take hi] at wr'
        have c10' : made.Perm (newS j s r (if s = 0 then (Wv.all j (ts.take i)).R else (Wv.all j (ts.take i)).L)) := by
          refine c10.trans (newS_perm ?_)
          by_cases hs0 : s = 0
          · rw [if_pos hs0]
            subst hs0
            exact wr.pr
          · rw [if_neg hs0]
            have : s = 1 := by have := htk.1; omega
            subst this
            exact wr.pl
        have hml : ms.length ≤ 35 := by
          rw [tm.length, List.length_map, c10'.length_eq]
          refine Nat.le_trans (newS_len _ _ _ _) ?_
          by_cases hs0 : s = 0
          · rw [if_pos hs0]; omega
          · rw [if_neg hs0]; omega
        refine ⟨p, ma, xs, ms, rfl, rfl, e4.lst hxs, hm, sz_le' (by omega), ?_⟩
        have mu : Mu (H4 p) := by rw [e4.lst hxs]; exact mu_lst
        have ts7 : TS H4 (upd H4 p (.lst (xs ++ ms))) := TS.mu mu
        have e5 := (e3.trans e4).mutF hpH mu (o := .lst (xs ++ ms))
        refine hN _ _ (e4.ts.trans ts7) ⟨⟨va, _, _, rfl, m', ls', rs', ?_, wr'⟩, e5, by rw [upd_ne pta]; exact e4.lst ht3, _, F ++ made, upd_same, ?_, ?_⟩
        · exact sr'.upd mu
        · rw [List.map_append]
          exact (Tps.ts (e4.ts.trans ts7) _ _ txs).append (Tps.ts ts7 _ _ tm)
        · rw [wv_take hi]
          exact pF.append c10'
      | mark m2 =>
        refine ix_d (i := 0) tx rfl fun y ty => ?_
        obtain rfl := ty.text_inv
        walk_at "rd2"
        refine ⟨rfl, ?_⟩
        refine ifF (by decide +kernel) ?_
        refine ix_d (i := 1) tx rfl fun y ty => ?_
        obtain rfl := ty.num_inv
        refine ⟨vj, vst, m2, m, j, ls, rs, rfl, Tp.ts e3.ts _ _ hj, sr, by omega, by omega, fun v4 H4 e4 ⟨p4, va, vm, ev, rd, m', ls', rs', made, sr', lm, c1, c2, c3, c4⟩ => ?_⟩
        subst ev
        refine ⟨p4, _, rfl, .inl rd, ?_⟩
        walk_at "rd2"
        obtain ⟨ma, ms, rfl, hm, tm⟩ := lm
        have wr' := wv_mark (m := m2) wr
        rw [← wv_take hi] at wr'
        rw [c4] at tm
        obtain rfl := tm.nil_inv
        refine ⟨p, ma, xs, [], rfl, rfl, e4.lst hxs, hm, sz_le' (by show xs.length + 0 ≤ _; omega), ?_⟩
        have mu : Mu (H4 p) := by rw [e4.lst hxs]; exact mu_lst
        have ts7 : TS H4 (upd H4 p (.lst (xs ++ []))) := TS.mu mu
        have e5 := (e3.trans e4).mutF hpH mu (o := .lst (xs ++ []))
        refine hN _ _ (e4.ts.trans ts7) ⟨⟨va, _, _, rfl, m', ls', rs', sr'.upd mu, by rw [c2, c3]; exact wr'⟩, e5, by rw [upd_ne pta]; exact e4.lst ht3, _, F, upd_same, ?_, ?_⟩
        · rw [List.append_nil]
          rw [List.append_nil] at ts7
          exact Tps.ts (e4.ts.trans ts7) _ _ txs
        · rw [wv_take hi]
          exact pF
    · obtain ⟨⟨vst, z5, z6, rfl, m, ls, rs, sr, wr⟩, e3, ht3, xs, F, hxs, txs, pF⟩ := pv
      walk_at "rd2"
      intro p5 hp5
      have e5 : Sm T H' (upd H' p5 (.tup [vst, V.ref p])) := Sm.new hp5
      rw [List.take_length] at pF
      exact k p5 _ vst (.ref p) F (e3.trans e5) (.inl upd_same) ⟨p, xs, rfl, e5.lst hxs, Tps.ts e5.ts _ _ txs⟩ pF
end K67
end
/-! ## K67J7 -/
section
set_option maxHeartbeats 4000000
/-! K67J7: all pairs at once -/
namespace K67
open PySem PySem.Spec PyProof.Rows L2 LamX NdefX
local macro_rules | `(tactic| walk_at "sm") => `(tactic| first | assumption | exact Sm.refl _ _ | (refine Sm.trans ?_ (by assumption); walk_at "sm"))
local macro_rules | `(tactic| walk_at "ts") => `(tactic| first | assumption | exact TS.refl _ | (refine TS.trans ?_ (by assumption); walk_at "ts") | (refine TS.trans ?_ (Sm.ts (by assumption)); walk_at "ts"))
local macro_rules | `(tactic| walk_at "tp") => `(tactic| first | assumption | exact Tp.int _ | exact Tp.str _ | exact Tp.non | (refine Tp.ts (H := ?_) ?_ _ _ (by assumption); walk_at "ts"))
local macro_rules | `(tactic| walk_at "tps") => `(tactic| first | assumption | exact Tps.nil | (refine Tps.cons ?_ ?_; · walk_at "tp"; · walk_at "tps") | (refine Tps.ts (H := ?_) ?_ _ _ (by assumption); walk_at "ts"))
local macro_rules | `(tactic| walk_at "rd") => `(tactic| try simp only [rMax2, and_assoc, tYes, tSeq, tIfS, tRet, tNext, tTest, tB, tOp, tUn, tVar, tC, tTup, tLst, tCons, tNil, tIf, tCB, tCall, tBM, tBM0, tAsg, gName, gCons, gNil, gSub, tDrop, tPar, tPar3, tAug, tAnd, tOr, tNot, tAndV, tOrV, tNotV, tChain, tSl, tPart, tNoPart, rI0, rI, rU, rEq, rNe, L2.start, wipe, sz0, sz1, sz2, sz3, sz4, sz5, sz6, List.map_cons, List.map_nil, List.length_cons, List.length_nil, List.cons_append, List.nil_append, List.append_nil, List.getElem?_cons_zero, List.getElem?_cons_succ, List.set_cons_zero, List.set_cons_succ, List.replicate_zero, List.replicate_succ, Option.some.injEq, V.bl.injEq, V.int.injEq, V.str.injEq, List.cons.injEq, and_true, true_and, exists_eq_left', exists_eq_left, exists_eq', exists_eq, exists_and_left, Nat.reduceSub, Nat.reduceAdd, Nat.reduceLeDiff, decide_true, decide_false, if_true, if_false, Bool.false_eq_true, reduceIte])
local macro_rules | `(tactic| walk_at "rd2") => `(tactic| try simp only [tDGet, sDPut, tDNewK, tNNew, tNGet2, tNSetd, tNGet, sNPut, tTupF, tCKw, tDead, sDead, tDispN, tPairs, StX.tStar, rNeDN, rNeDN2, rMax2, and_assoc, tYes, tSeq, tIfS, tRet, tNext, tTest, tB, tOp, tUn, tVar, tC, tTup, tLst, tCons, tNil, tIf, tCB, tCall, tBM, tBM0, tAsg, gName, gCons, gNil, gSub, tDrop, tPar, tPar3, tAug, tAnd, tOr, tNot, tAndV, tOrV, tNotV, tChain, tSl, tPart, tNoPart, rI0, rI, rU, rEq, rNe, L2.start, wipe, sz0, sz1, sz2, sz3, sz4, sz5, sz6, List.map_cons, List.map_nil, List.length_cons, List.length_nil, List.cons_append, List.nil_append, List.append_nil, List.getElem?_cons_zero, List.getElem?_cons_succ, List.set_cons_zero, List.set_cons_succ, List.replicate_zero, List.replicate_succ, Option.some.injEq, V.bl.injEq, V.int.injEq, V.str.injEq, List.cons.injEq, and_true, true_and, exists_eq_left', exists_eq_left, exists_eq', exists_eq, exists_and_left, Nat.reduceSub, Nat.reduceAdd, Nat.reduceLeDiff, decide_true, decide_false, if_true, if_false, Bool.false_eq_true, reduceIte])

/-- over a list, the new list's own address told fresh -/
theorem lcLf {T : List (Addr × Str)} {K : PySem.W.Frag} {H : Hp} {σ : L2.St} {vs : List Nat} {tl te : TE} {g : TG} {tt : TT} {Q : VK} {α β : Type} (as : List α) (IR : Hp → V → α → Prop) (R : Addr → Hp → V → β → Prop) (F : α → Option β)
    (h : ∀ Q' : VK, (∀ a xs H', Sm T H H' → H' a = some (.lst xs) → Paired (IR H') xs as → Q' (.ref a) H') → tl σ H Q') (hl : as.length ≤ 100000) (hIR : ∀ H H' v b, Sm T H H' → IR H v b → IR H' v b) (hR : ∀ D H H' v b, XBut D H H' → R D H v b → R D H' v b)
    (hs : ∀ D (i : Nat) x a H1, as[i]? = some a → Sm T H H1 → IR H1 x a → (∃ ys, H1 D = some (.lst ys)) → Turn' T g tt te vs σ (R D) (F a) x H1)
    (hd : ∀ D H1 ys, Fresh H D → Sm T H H1 → H1 D = some (.lst ys) → Paired (R D H1) ys (as.filterMap F) → Q (.ref D) H1) : tLc (iList K tl) g tt te vs σ H Q := by
  refine h _ fun a xs H1 e1 h1 h2 => ?_
  have hn : xs.length = as.length := Paired.length h2
  refine ⟨a, rfl, ⟨xs, .inl (.inl h1)⟩, fun D hD => ?_⟩
  refine lc_dat (T := T) (walk_list (K := K) (a := a) (xs := xs)) (R D) (fun i => as[i]?.bind F) hD (fun H' e => .inl (.inl (e.lst h1))) (by omega) (hR D) (fun i x H2 H2' hi e2 hDs y Qy Qn hy hnn => ?_) (fun H' ys e2 hD' pr => ?_)
  · obtain ⟨rfl, hx⟩ := y
    obtain ⟨b, hb, td⟩ := Paired.at_ h2 hx
    exact hs D i x b H2' hb (e1.trans e2) (hIR _ _ _ _ e2 td) hDs Qy Qn (fun y b' H3 h1 h2 h3 => hy y b' H3 (by show as[i]?.bind F = _; rw [hb]; exact h1) h2 h3) (fun H3 h1 h2 => hnn H3 (by show as[i]?.bind F = _; rw [hb]; exact h1) h2)
  · rw [hn, fm_at] at pr
    exact hd D H' ys (fresh_of e1 hD) (e1.trans e2) hD' pr
theorem lc2LL {T : List (Addr × Str)} {K : PySem.W.Frag} {α β γ : Type} {tl tl1 te : TE} {tt1 : TT} {ja jb : Nat} {vs vs1 : List Nat} {σ : L2.St} {H : Hp} {Q : VK} {a b : Addr} {xs ys : List V} (as : List α) (bs : List β) (I1 : Hp → V → α → Prop) (I2 : Hp → V → β → Prop) (R : Addr → Hp → V → γ → Prop) (F : α → β → Option γ)
    (ha : H a = some (.lst xs)) (pa : Paired (I1 H) xs as) (hb : H b = some (.lst ys)) (pb : Paired (I2 H) ys bs) (h : ∀ Q' : VK, Q' (.ref a) H → tl σ H Q') (h1 : ∀ x H' (Q' : VK), Sm T H H' → Q' (.ref b) H' → tl1 ((wipe σ vs).set ja (some x)) H' Q')
    (hv : ∀ x, wipe ((wipe σ vs).set ja (some x)) vs = wipe σ vs) (hv1 : ∀ x y, wipe ((wipe ((wipe σ vs).set ja (some x)) vs1).set jb (some y)) vs1 = wipe ((wipe σ vs).set ja (some x)) vs1) (hla : as.length ≤ 100) (hlb : bs.length ≤ 100)
    (hI1 : ∀ H H' v b, Sm T H H' → I1 H v b → I1 H' v b) (hI2 : ∀ H H' v b, Sm T H H' → I2 H v b → I2 H' v b) (hR : ∀ D H H' v b, XBut D H H' → R D H v b → R D H' v b)
    (hs : ∀ D x y p q H1, p ∈ as → q ∈ bs → Sm T H H1 → I1 H1 x p → I2 H1 y q → ∀ (Qy : V → Hp → Prop) (Qn : Hp → Prop), (∀ v c H2, F p q = some c → Sm T H1 H2 → R D H2 v c → Qy v H2) → (∀ H2, F p q = none → Sm T H1 H2 → Qn H2) →
      tt1 ((wipe ((wipe σ vs).set ja (some x)) vs1).set jb (some y)) H1 fun b H3 => if b = true then te ((wipe ((wipe σ vs).set ja (some x)) vs1).set jb (some y)) H3 Qy else Qn H3)
    (hd : ∀ D H1 zs, Sm T H H1 → H1 D = some (.lst zs) → Paired (R D H1) zs (as.flatMap fun p => bs.filterMap (F p)) → Q (.ref D) H1) :
    tLc2 (iList K tl) (gName ja) tYes (iList K tl1) (gName jb) tt1 te vs vs1 σ H Q := by
  refine h _ ⟨a, rfl, ⟨xs, .inl (.inl ha)⟩, fun D hD => ?_⟩
  have na : xs.length = as.length := Paired.length pa
  have nb : ys.length = bs.length := Paired.length pb
  have prl : ∀ i j : Nat, i ≤ as.length → j ≤ bs.length → ∀ p : α, ((as.take i).flatMap (fun p => bs.filterMap (F p)) ++ (bs.take j).filterMap (F p)).length ≤ 10100 := fun i j hi hj p => by
    rw [List.length_append]
    have e1 : ∀ l : List α, (l.flatMap fun p => bs.filterMap (F p)).length ≤ l.length * 100 := fun l => by
      induction l with
      | nil => exact Nat.le_refl _
      | cons c l ih =>
        rw [List.flatMap_cons, List.length_append, List.length_cons]
        have := List.length_filterMap_le (F c) bs
        omega
    have e2 := e1 (as.take i)
    have e3 := List.length_filterMap_le (F p) (bs.take j)
    rw [List.length_take] at e2 e3
    omega
  let Ou : Nat → Hp → Prop := fun i H' => i ≤ as.length ∧ Sm T H H' ∧ ∃ zs, H' D = some (.lst zs) ∧ Paired (R D H') zs ((as.take i).flatMap fun p => bs.filterMap (F p))
  refine ⟨fun i m H' => m = as.length - i ∧ Ou i H', ⟨_, rfl, Nat.zero_le _, Sm.new hD, [], upd_same, .nil⟩, ?_⟩
  rintro i m H' ⟨rfl, hi, e, zs, hz, pz⟩
  by_cases hlt : i < as.length
  · refine .inr ⟨(walk_list (K := K) (a := a) (xs := xs)).goes i H' (by omega) (.inl (.inl (e.lst ha))), Ou (i + 1), fun H'' q => ⟨as.length - (i + 1), by omega, rfl, q⟩, fun x H'' yy => ?_⟩
    obtain ⟨rfl, hx⟩ := (walk_list (K := K) (a := a) (xs := xs)).yields i H' x H'' (by omega) (.inl (.inl (e.lst ha))) yy
    obtain ⟨p, hp, tp⟩ := Paired.at_ pa hx
    refine ⟨hv x, ?_⟩
    unfold tYes
    dsimp only
    rw [if_pos rfl]
    refine h1 x H'' _ e ⟨b, rfl, ⟨ys, .inl (.inl (e.lst hb))⟩, ?_⟩
    let In : Nat → Hp → Prop := fun j H2 => j ≤ bs.length ∧ Sm T H H2 ∧ ∃ zs, H2 D = some (.lst zs) ∧ Paired (R D H2) zs ((as.take i).flatMap (fun p => bs.filterMap (F p)) ++ (bs.take j).filterMap (F p))
    refine ⟨fun j k H2 => k = bs.length - j ∧ In j H2, ⟨_, rfl, Nat.zero_le _, e, zs, hz, by simpa using pz⟩, ?_⟩
    rintro j k H2 ⟨rfl, hj, e2, ws, hw, pw⟩
    by_cases hlj : j < bs.length
    · refine .inr ⟨(walk_list (K := K) (a := b) (xs := ys)).goes j H2 (by omega) (.inl (.inl (e2.lst hb))), In (j + 1), fun H3 q => ⟨bs.length - (j + 1), by omega, rfl, q⟩, fun y H3 yy => ?_⟩
      obtain ⟨rfl, hy⟩ := (walk_list (K := K) (a := b) (xs := ys)).yields j H2 y H3 (by omega) (.inl (.inl (e2.lst hb))) yy
      obtain ⟨q, hq, tq⟩ := Paired.at_ pb hy
      refine ⟨hv1 x y, ?_⟩
      have etk : (bs.take (j + 1)).filterMap (F p) = (bs.take j).filterMap (F p) ++ (F p q).toList := by
        rw [List.take_add_one, hq, List.filterMap_append]
        congr 1
      refine hs D x y p q H3 (List.mem_of_getElem? hp) (List.mem_of_getElem? hq) e2 (hI1 _ _ _ _ e2 tp) (hI2 _ _ _ _ e2 tq) _ _ (fun v c H4 hf e4 r => ?_) fun H4 hf e4 => ?_
      · have hwl := Paired.length pw
        have := prl i j (by omega) hj p
        have xb : XBut D H4 (upd H4 D (.lst (ws ++ [v]))) := XBut.upd (by rw [e4.lst hw]; exact mu_lst)
        refine ⟨ws, e4.lst hw, sz_lt' (by omega), hlj, (e2.trans e4).mutF (fun o ho => absurd ho ?_) (by rw [e4.lst hw]; exact mu_lst), ws ++ [v], upd_same, ?_⟩
        · intro hh
          rw [hD] at hh
          cases hh
        · rw [etk, hf, ← List.append_assoc]
          exact Paired.snoc (Paired.mapP (Paired.mapP pw fun _ _ r => hR _ _ _ _ _ (XBut.of e4) r) fun _ _ r => hR _ _ _ _ _ xb r) (hR _ _ _ _ _ xb r)
      · refine ⟨hlj, e2.trans e4, ws, e4.lst hw, ?_⟩
        rw [etk, hf]
        simpa using Paired.mapP pw fun _ _ r => hR _ _ _ _ _ (XBut.of e4) r
    · obtain rfl : j = bs.length := by omega
      have st := (walk_list (K := K) (a := b) (xs := ys)).stops H2 (.inl (.inl (e2.lst hb)))
      rw [nb] at st
      refine .inl ⟨st, hlt, e2, ws, hw, ?_⟩
      rw [List.take_add_one, hp, List.flatMap_append]
      rw [List.take_length] at pw
      simpa using pw
  · obtain rfl : i = as.length := by omega
    rw [List.take_length] at pz
    have st := (walk_list (K := K) (a := a) (xs := xs)).stops H' (.inl (.inl (e.lst ha)))
    rw [na] at st
    exact .inl ⟨st, hd D H' zs e hz pz⟩
def LsN (D : Addr) (H : Hp) (v : V) (l : List Row) : Prop := ∃ a xs, v = .ref a ∧ a ≠ D ∧ H a = some (.lst xs) ∧ Tps H xs (l.map Row.k)
theorem lsn_xb {D : Addr} {H H' : Hp} {v : V} {l : List Row} (xb : XBut D H H') (h : LsN D H v l) : LsN D H' v l := let ⟨a, xs, e, n, ha, t⟩ := h
  ⟨a, xs, e, n, xb.2 a _ n ha (fun ps z => by cases z), Tps.ts xb.1 _ _ t⟩
def sideRows (s : Nat) (ts : List Th) : List Row := ts.filterMap fun
  | .row s' r => if s' = s then some r else none
  | .mark _ => none
def allP (j : Jn) (L R : List Row) : List Row := L.flatMap fun a => (R.filter (meetB j a)).map (pairR j a)
section
variable (P : Program) (w : World) (T : List (Addr × Str))
def sp_all_pairs : Sp := fun vs H Q _ => ∃ (vj vt : V) (j : Jn) (ts : List Th) (TyL TyR : Row → Prop), vs = [vj, vt] ∧ Tp H vj j.k ∧ LsK H vt (ts.map Th.k) ∧ JT j TyL TyR ∧ (∀ t ∈ ts, ThOk TyL TyR t) ∧ ts.length ≤ 35 ∧
  ∀ v' H', Sm T H H' → LsK H' v' (((allP j (sideRows 0 ts) (sideRows 1 ts)).mergeSort (PySem.W.dataLe false fun a => (givenK a).data)).map Row.k) → Q v' H'
end
variable {P : Program} {w : World} {K : PySem.W.Frag} {mg : Str → Option Value} {base : Heap} {T : List (Addr × Str)} {f : Addr} {fd : FuncData}
abbrev N_all_pairs : List Str := ["join", "things", "sides", "found", "side", "one", "other", "thing"]
theorem sc_all_pairs : FnScope N_all_pairs ["join", "things"] (defScope s_all_pairs) := ⟨rfl, rfl, rfl, by decide +kernel, rfl, by decide +kernel, by decide +kernel⟩
theorem ok_all_pairs (B : Bs mg) (D_do_meet : Df P w K mg base "do_meet" 2 ["join", "one", "other"] (sp_do_meet T)) (D_pair : Df P w K mg base "pair" 1 ["join", "one", "other"] (sp_pair T)) (D_given_rank : Df P w K mg base "given_rank" 3 ["row"] (sp_given T)) {q_given_rank : Addr} (g_given_rank : mg "given_rank" = some (.ref q_given_rank)) (hg : mg "all_pairs" = some (.ref f)) (F : FnP K "all_pairs" s_all_pairs f fd) : Df P w K mg base "all_pairs" 6 ["join", "things"] (sp_all_pairs T) := by
  refine df_mk hg F sc_all_pairs (fun vs H Q E h => ?_) (fun _ _ _ _ _ _ us hl => match us, hl with | [_, _], _ => rfl) (fun cdv A outer s H vs Q E hr h => ?_)
  · obtain ⟨_, _, _, _, _, _, rfl, _⟩ := h
    rfl
  · obtain ⟨vj, vt, j, ts, TyL, TyR, rfl, hj, hvt, jt, hty, l35, k⟩ := h
    refine ⟨_,
      (pss_cons (ps_set (i := 2) sc_all_pairs.nd rfl (by first | exact Or.inl rfl | exact Or.inr rfl) (pe_lc (own := [("side", 4)]) (by rfl) sc_all_pairs.nd (pi_tupK (K := K) rfl (pe_tup (pa_cons pe_int (pa_cons pe_int pa_nil)))) (blkOk_by (N := N_all_pairs) (sc := defScope s_all_pairs) (by decide +kernel)) (fun _ _ _ _ _ => (pg_name (i := 4) sc_all_pairs.nd rfl (by first | exact Or.inl rfl | exact Or.inr rfl))) (fun _ _ _ _ _ => pts_nil) (fun _ _ _ _ _ => (pe_lc (own := [("thing", 7)]) (by rfl) sc_all_pairs.nd (pi_listK (K := K) rfl (pv 1)) (blkOk_by (N := N_all_pairs) (sc := (relS _ (defScope s_all_pairs))) (by decide +kernel)) (fun _ _ _ _ _ => (pg_name (i := 7) sc_all_pairs.nd rfl (by first | exact Or.inl rfl | exact Or.inr rfl))) (fun _ _ _ _ _ => (pts_one (PW.pt (pw_and (pt_cmpR op_eq (pe_ix (ix_tupK (K := K) rfl) (pv 7) pe_int (fun _ _ => rfl)) pe_str (nomark _)) (pw_and1 (pt_cmpR op_eq (pe_ix (ix_tupK (K := K) rfl) (pv 7) pe_int (fun _ _ => rfl)) (pv 4) (nomark _))))))) (fun _ _ _ _ _ => (pe_ix (ix_tupK (K := K) rfl) (pv 7) pe_int (fun _ _ => rfl)))))))
    (pss_cons (ps_setLc2 (i := 3) (own := [("one", 5), ("other", 6)]) (vs1 := [6]) (by rfl) sc_all_pairs.nd rfl rfl (sw_true rfl rfl rfl (by decide +kernel)) (pi_listK (K := K) rfl (pe_ix (ix_listK (K := K) rfl) (pv 2) pe_int (fun _ _ => rfl))) (blkOk_by (N := N_all_pairs) (sc := defScope s_all_pairs) (by decide +kernel)) (by decide) (fun _ _ _ _ _ => (pg_name (i := 5) sc_all_pairs.nd rfl (by first | exact Or.inl rfl | exact Or.inr rfl))) (fun _ _ _ _ _ => pts_nil) (fun _ _ _ _ _ => (pi_listK (K := K) rfl (pe_ix (ix_listK (K := K) rfl) (pv 2) pe_int (fun _ _ => rfl)))) (fun _ _ _ _ _ => (pg_name (i := 6) sc_all_pairs.nd rfl (by first | exact Or.inl rfl | exact Or.inr rfl))) (fun _ _ _ _ _ => (pts_one (pt_val (pe_df D_do_meet hr (pa_cons (pv 0) (pa_cons (pv 5) (pa_cons (pv 6) pa_nil))))))) (fun _ _ _ _ _ => (pe_df D_pair hr (pa_cons (pv 0) (pa_cons (pv 5) (pa_cons (pv 6) pa_nil))))))
    (pss_one (ps_ret (pe_callBK (cr_sortK (T := T) (IR := rowIR) (en := givenK) (q := q_given_rank) (fun σ => keyfn_df D_given_rank g_given_rank hr (by decide) rowIR_given σ) rowIR_sm hr.units) (by rfl) B.sorted_ (by decide +kernel) (pa_cons (pv 3) pa_nil) (pk_cons (pe_glob (v := .ref q_given_rank) rfl g_given_rank rfl) pk_nil))))))
      , ?_⟩
    walk_at "rd2"
    have hj0 : Tp H vj j.k := hj
    refine lcT (T := T) [(0 : Nat), 1] (fun n => NestedKey.num (n : Int)) (fun D H v (l : List Row) => LsN D H v l) (fun n => some (sideRows n ts)) (fun Q' k' => ?_) (by decide) (fun D H H' v b xb r => lsn_xb xb r) (fun D i x n H1 hn e tx hD Qy Qn hy hnn => ?_) (fun D1 H1 ys1 e1 hD1 pr1 => ?_)
    · walk_at "rd2"
      exact tup_d (T := T) (.cons (.int 0) (.cons (.int 1) .nil)) k'
    · obtain rfl := tx.num_inv
      walk_at "rd2"
      obtain ⟨ta, xt, rfl, ht, tt⟩ := lsK_sm e hvt
      have prt : ∀ {xs : List V} {as : List Th}, Tps H1 xs (as.map Th.k) → Paired ((fun (H : Hp) v (t : Th) => Tp H v t.k) H1) xs as := by
        intro xs as
        induction as generalizing xs with
        | nil => intro h; obtain rfl := h.nil_inv; exact .nil
        | cons a as ih => intro h; obtain ⟨v, ws, rfl, tv, tw⟩ := h.cons_inv; exact .cons tv (ih tw)
      have pp := prt tt
      refine lcLf (T := T) ts (fun H v (t : Th) => Tp H v t.k) (fun _ H v (r : Row) => Tp H v r.k) (fun t => match t with
        | .row s' r => if s' = n then some r else none
        | .mark _ => none) (fun Q' k' => ?_) (by omega) (fun _ _ _ _ e t => Tp.ts e.ts _ _ t) (fun _ _ _ _ _ xb t => Tp.ts xb.1 _ _ t) (fun D i x t H2 hi e2 tx hD2 Qy2 Qn2 hy2 hnn2 => ?_) (fun D2 H2 ys2 fr2 e2 hD2 pr2 => ?_)
      · walk_at "rd2"
        exact k' ta xt H1 (Sm.refl _ _) ht pp
      · walk_at "rd2"
        cases t with
        | row s r =>
          refine ix_d (i := 0) tx rfl fun y ty => ?_
          obtain rfl := ty.text_inv
          walk_at "rd2"
          refine ⟨rfl, ?_⟩
          refine ix_d (i := 1) tx rfl fun y ty => ?_
          obtain rfl := ty.num_inv
          refine ⟨rfl, ?_⟩
          refine ite2 (fun c1 => ?_) (fun c1 => ?_)
          · have c1 : s = n := by
              have := V.int.inj (of_decide_eq_true c1)
              omega
            refine ix_d (i := 2) tx rfl fun y ty => ?_
            exact hy2 y r H2 (if_pos c1) (Sm.refl _ _) ty
          · have c1 : ¬ s = n := fun z => c1 (by rw [z]; exact decide_eq_true rfl)
            exact hnn2 H2 (if_neg c1) (Sm.refl _ _)
        | mark m =>
          refine ix_d (i := 0) tx rfl fun y ty => ?_
          obtain rfl := ty.text_inv
          walk_at "rd2"
          refine ⟨rfl, ?_⟩
          refine ifF (by decide +kernel) ?_
          exact hnn2 H2 rfl (Sm.refl _ _)
      · refine hy (.ref D2) _ H2 rfl e2 ⟨D2, ys2, rfl, fun z => ?_, hD2, ?_⟩
        · obtain ⟨ys0, hys0⟩ := hD
          subst z
          obtain ⟨ps, hps⟩ := fr2 _ hys0
          cases hps
        · have key : ∀ {ys : List V} {ps : List Row}, Paired (fun v p => Tp H2 v p.k) ys ps → Tps H2 ys (ps.map Row.k) := by
            intro ys ps h
            induction h with
            | nil => exact .nil
            | cons r _ ih => exact .cons r ih
          exact key pr2
    · rw [fm_map] at pr1
      obtain ⟨v0, r0, rfl, q0, pr1⟩ : ∃ v0 r0, ys1 = v0 :: r0 ∧ LsN D1 H1 v0 (sideRows 0 ts) ∧ Paired (LsN D1 H1) r0 [sideRows 1 ts] := by
        cases pr1 with
        | cons r t => exact ⟨_, _, rfl, r, t⟩
      obtain ⟨v1, r1, rfl, q1, pr1⟩ : ∃ v1 r1, r0 = v1 :: r1 ∧ LsN D1 H1 v1 (sideRows 1 ts) ∧ Paired (LsN D1 H1) r1 [] := by
        cases pr1 with
        | cons r t => exact ⟨_, _, rfl, r, t⟩
      cases pr1
      obtain ⟨a0, xs0, rfl, n0, h0, t0⟩ := q0
      obtain ⟨a1, xs1, rfl, n1, h1, t1⟩ := q1
      walk_at "rd2"
      have prr : ∀ {xs : List V} {as : List Row}, Tps H1 xs (as.map Row.k) → Paired ((fun (H : Hp) v (t : Row) => Tp H v t.k) H1) xs as := by
        intro xs as
        induction as generalizing xs with
        | nil => intro h; obtain rfl := h.nil_inv; exact .nil
        | cons a as ih => intro h; obtain ⟨v, ws, rfl, tv, tw⟩ := h.cons_inv; exact .cons tv (ih tw)
      have memS : ∀ s r, r ∈ sideRows s ts → Th.row s r ∈ ts := fun s r hr => by
        unfold sideRows at hr
        obtain ⟨t, ht, e⟩ := List.mem_filterMap.mp hr
        cases t with
        | row s' r' =>
          have e : (if s' = s then some r' else none) = some r := e
          by_cases c : s' = s
          · rw [if_pos c] at e
            cases e
            exact c ▸ ht
          · rw [if_neg c] at e; cases e
        | mark m => cases e
      have hL : ∀ a ∈ sideRows 0 ts, TyL a := fun a ha => (hty _ (memS 0 a ha)).2
      have hR : ∀ a ∈ sideRows 1 ts, TyR a := fun a ha => (hty _ (memS 1 a ha)).2
      have lS : ∀ s, (sideRows s ts).length ≤ 35 := fun s => Nat.le_trans (List.length_filterMap_le _ _) l35
      have hjH1 := Tp.ts e1.ts _ _ hj
      refine lc2LL (T := T) (sideRows 0 ts) (sideRows 1 ts) (fun H v (t : Row) => Tp H v t.k) (fun H v (t : Row) => Tp H v t.k) (fun _ H v (r : Row) => Tp H v r.k) (fun a b => if meetB j a b = true then some (pairR j a b) else none) h0 (prr t0) h1 (prr t1) (fun Q' k' => ?_) (fun x H' Q' e k' => ?_) (fun x => rfl) (fun x y => rfl) (by have := lS 0; omega) (by have := lS 1; omega)
        (fun _ _ _ _ e t => Tp.ts e.ts _ _ t) (fun _ _ _ _ e t => Tp.ts e.ts _ _ t) (fun _ _ _ _ _ xb t => Tp.ts xb.1 _ _ t) (fun D x y p q H2 hp hq e2 tx ty Qy Qn hy hnn => ?_) (fun D H2 zs e2 hD2 pz => ?_)
      · walk_at "rd2"
        exact ⟨D1, _, (0 : Nat), .ref a0, rfl, rfl, .inl (.inl hD1), rfl, k'⟩
      · walk_at "rd2"
        exact ⟨D1, _, (1 : Nat), .ref a1, rfl, rfl, .inl (.inl (e.lst hD1)), rfl, k'⟩
      · walk_at "rd2"
        have okp := (jt.okL _ (hL _ hp)).1
        have okq := (jt.okR _ (hR _ hq)).1
        have jok := jt.jok _ _ (hL _ hp) (hR _ hq)
        have hj2 := Tp.ts e2.ts _ _ hjH1
        refine ⟨vj, x, y, j, p, q, rfl, hj2, tx, ty, jok, okp, okq, fun H3 e3 => ?_⟩
        walk_at "rd2"
        refine ite2 (fun c1 => ?_) (fun c1 => ?_)
        · refine ⟨vj, x, y, j, p, q, rfl, Tp.ts e3.ts _ _ hj2, Tp.ts e3.ts _ _ tx, Tp.ts e3.ts _ _ ty, jok, okp, okq, fun v4 H4 e4 t4 => ?_⟩
          exact hy v4 _ H4 (if_pos c1) (e3.trans e4) t4
        · exact hnn H3 (if_neg c1) e3
      · walk_at "rd2"
        generalize hal : allP j (sideRows 0 ts) (sideRows 1 ts) = al at k
        have efm : ((sideRows 0 ts).flatMap fun p => (sideRows 1 ts).filterMap fun b => if meetB j p b = true then some (pairR j p b) else none) = al := by
          rw [← hal]
          unfold allP
          congr 1
          funext a
          generalize sideRows 1 ts = bs
          induction bs with
          | nil => rfl
          | cons b bs ih =>
            rw [List.filterMap_cons, List.filter_cons, ih]
            by_cases c : meetB j a b = true
            · rw [if_pos c, if_pos c]; rfl
            · rw [if_neg c, if_neg c]
        rw [efm] at pz
        have hmem : ∀ x ∈ al, ∃ a b, TyL a ∧ TyR b ∧ x = pairR j a b := fun x hx => by
          rw [← hal] at hx
          obtain ⟨a, ha, hx⟩ := List.mem_flatMap.mp hx
          obtain ⟨b, hb, rfl⟩ := List.mem_map.mp hx
          exact ⟨a, b, hL a ha, hR b (List.mem_filter.mp hb).1, rfl⟩
        have hok : ∀ x ∈ al, x.ok := fun x hx => by
          obtain ⟨a, b, ha, hb, rfl⟩ := hmem x hx
          exact jt.pok a b ha hb
        have hlen : al.length ≤ 35 * 35 := by
          rw [← hal]
          unfold allP
          have key : ∀ l : List Row, (l.flatMap fun a => ((sideRows 1 ts).filter (meetB j a)).map (pairR j a)).length ≤ l.length * 35 := fun l => by
            induction l with
            | nil => exact Nat.le_refl _
            | cons a l ih =>
              rw [List.flatMap_cons, List.length_append, List.length_map, List.length_cons]
              have h1 := List.length_filter_le (meetB j a) (sideRows 1 ts)
              have h2 := lS 1
              omega
          exact Nat.le_trans (key _) (Nat.mul_le_mul_right _ (lS 0))
        have prr2 : Paired (rowIR H2) zs al := by
          have key : ∀ {xs : List V} {as : List Row}, Paired (fun v (r : Row) => Tp H2 v r.k) xs as → (∀ x ∈ as, x.ok) → Paired (rowIR H2) xs as := by
            intro xs as h
            induction h with
            | nil => intro _; exact .nil
            | cons r _ ih => intro hk; exact .cons ⟨r, hk _ List.mem_cons_self⟩ (ih fun x hx => hk x (List.mem_cons_of_mem _ hx))
          exact key pz hok
        refine ⟨D, zs, al, rfl, rfl, hD2, prr2, by omega, ?_, .inl fun d' hd' => ?_, fun x hx => ?_, fun p8 H8 ys e8 hp8 pr8 => ?_⟩
        · intro d hd d' hd'
          obtain ⟨q, hq, rfl⟩ := List.mem_map.mp hd
          obtain ⟨q', hq', rfl⟩ := List.mem_map.mp hd'
          obtain ⟨a1, b1, ha1, hb1, rfl⟩ := hmem q hq
          obtain ⟨a2, b2, ha2, hb2, rfl⟩ := hmem q' hq'
          exact jt.alM _ _ _ _ ha1 hb1 ha2 hb2
        · obtain ⟨q, _, rfl⟩ := List.mem_map.mp hd'
          exact ⟨_, _, rfl⟩
        · rw [depth_data]
          exact Nat.le_trans (depth_given (hok x hx).1) (by omega)
        · have e9 : Sm T H8 (upd H8 p8 (.lst ys)) := Sm.new hp8
          refine k (.ref p8) _ (((e1.trans e2).trans e8).trans e9) ⟨p8, ys, rfl, upd_same, ?_⟩
          have key : ∀ {xs : List V} {ps : List Row}, Paired (rowIR H8) xs ps → Tps (upd H8 p8 (.lst ys)) xs (ps.map Row.k) := by
            intro xs ps h
            induction h with
            | nil => exact .nil
            | cons r _ ih => exact .cons (Tp.ts e9.ts _ _ r.1) ih
          exact key pr8
end K67
end
/-! ## K67J8 -/
section
set_option maxHeartbeats 4000000
/-! K67J8: is it a row -/
namespace K67
open PySem PySem.Spec PyProof.Rows L2 LamX NdefX
local macro_rules | `(tactic| walk_at "sm") => `(tactic| first | assumption | exact Sm.refl _ _ | (refine Sm.trans ?_ (by assumption); walk_at "sm"))
local macro_rules | `(tactic| walk_at "ts") => `(tactic| first | assumption | exact TS.refl _ | (refine TS.trans ?_ (by assumption); walk_at "ts") | (refine TS.trans ?_ (Sm.ts (by assumption)); walk_at "ts"))
local macro_rules | `(tactic| walk_at "tp") => `(tactic| first | assumption | exact Tp.int _ | exact Tp.str _ | exact Tp.non | (refine Tp.ts (H := ?_) ?_ _ _ (by assumption); walk_at "ts"))
local macro_rules | `(tactic| walk_at "tps") => `(tactic| first | assumption | exact Tps.nil | (refine Tps.cons ?_ ?_; · walk_at "tp"; · walk_at "tps") | (refine Tps.ts (H := ?_) ?_ _ _ (by assumption); walk_at "ts"))
local macro_rules | `(tactic| walk_at "rd") => `(tactic| try simp only [rMax2, and_assoc, tYes, tSeq, tIfS, tRet, tNext, tTest, tB, tOp, tUn, tVar, tC, tTup, tLst, tCons, tNil, tIf, tCB, tCall, tBM, tBM0, tAsg, gName, gCons, gNil, gSub, tDrop, tPar, tPar3, tAug, tAnd, tOr, tNot, tAndV, tOrV, tNotV, tChain, tSl, tPart, tNoPart, rI0, rI, rU, rEq, rNe, L2.start, wipe, sz0, sz1, sz2, sz3, sz4, sz5, sz6, List.map_cons, List.map_nil, List.length_cons, List.length_nil, List.cons_append, List.nil_append, List.append_nil, List.getElem?_cons_zero, List.getElem?_cons_succ, List.set_cons_zero, List.set_cons_succ, List.replicate_zero, List.replicate_succ, Option.some.injEq, V.bl.injEq, V.int.injEq, V.str.injEq, List.cons.injEq, and_true, true_and, exists_eq_left', exists_eq_left, exists_eq', exists_eq, exists_and_left, Nat.reduceSub, Nat.reduceAdd, Nat.reduceLeDiff, decide_true, decide_false, if_true, if_false, Bool.false_eq_true, reduceIte])
local macro_rules | `(tactic| walk_at "rd2") => `(tactic| try simp only [tDGet, sDPut, tDNewK, tNNew, tNGet2, tNSetd, tNGet, sNPut, tTupF, tCKw, tDead, sDead, tDispN, tPairs, StX.tStar, rNeDN, rNeDN2, rMax2, and_assoc, tYes, tSeq, tIfS, tRet, tNext, tTest, tB, tOp, tUn, tVar, tC, tTup, tLst, tCons, tNil, tIf, tCB, tCall, tBM, tBM0, tAsg, gName, gCons, gNil, gSub, tDrop, tPar, tPar3, tAug, tAnd, tOr, tNot, tAndV, tOrV, tNotV, tChain, tSl, tPart, tNoPart, rI0, rI, rU, rEq, rNe, L2.start, wipe, sz0, sz1, sz2, sz3, sz4, sz5, sz6, List.map_cons, List.map_nil, List.length_cons, List.length_nil, List.cons_append, List.nil_append, List.append_nil, List.getElem?_cons_zero, List.getElem?_cons_succ, List.set_cons_zero, List.set_cons_succ, List.replicate_zero, List.replicate_succ, Option.some.injEq, V.bl.injEq, V.int.injEq, V.str.injEq, List.cons.injEq, and_true, true_and, exists_eq_left', exists_eq_left, exists_eq', exists_eq, exists_and_left, Nat.reduceSub, Nat.reduceAdd, Nat.reduceLeDiff, decide_true, decide_false, if_true, if_false, Bool.false_eq_true, reduceIte])

def domB : NestedKey → Bool
  | .none => true
  | .num _ => true
  | .text s => decide (s = "a") || decide (s = "b") || decide (s = "")
  | .tup _ => false
def isNumK : NestedKey → Bool
  | .num _ => true
  | _ => false
theorem bls_all : ∀ {ys : List V} {bs : List Bool}, Paired (fun v (b : Bool) => v = .bl b) ys bs → (∀ b ∈ bs, b = true) → ∃ cs : List Bool, ys = cs.map V.bl ∧ cs.all id = true
  | _, _, .nil, _ => ⟨[], rfl, rfl⟩
  | _, _, .cons r t, h => by
    obtain ⟨cs, e, hc⟩ := bls_all t fun b hb => h b (List.mem_cons_of_mem _ hb)
    have hb := h _ List.mem_cons_self
    subst hb
    exact ⟨true :: cs, by rw [r, e]; rfl, by show (true && cs.all id) = true; rw [hc]; rfl⟩
def sp_isint : Sp := fun vs H Q _ => ∃ v d, vs = [v] ∧ Tp H v d ∧ atomB d = true ∧ Q (.bl (isNumK d)) H
section
variable (T : List (Addr × Str))
def sp_isval : Sp := fun vs H Q _ => ∃ v d, vs = [v] ∧ Tp H v d ∧ domB d = true ∧ ∀ H', Sm T H H' → Q (.bl true) H'
def sp_isrow : Sp := fun vs H Q _ => ∃ v r, vs = [v] ∧ Tp H v (Row.k r) ∧ 0 ≤ r.t ∧ (r.s = 1 ∨ r.s = -1) ∧ r.vs.all domB = true ∧ r.vs.length ≤ 100 ∧ ∀ H', Sm T H H' → Q (.bl true) H'
end
variable {P : Program} {w : World} {K : PySem.W.Frag} {mg : Str → Option Value} {base : Heap} {T : List (Addr × Str)} {f : Addr} {fd : FuncData}
abbrev N_is_integer_values : List Str := ["value"]
theorem sc_is_integer_values : FnScope N_is_integer_values ["value"] (defScope s_is_integer_values) := ⟨rfl, rfl, rfl, by decide +kernel, rfl, by decide +kernel, by decide +kernel⟩
theorem ok_is_integer_values (B : Bs mg) (hg : mg "is_integer_values" = some (.ref f)) (F : FnP K "is_integer" s_is_integer_values f fd) : Df P w K mg base "is_integer_values" 1 ["value"] sp_isint := by
  refine df_mk hg F sc_is_integer_values (fun vs H Q E h => ?_) (fun _ _ _ _ _ _ us hl => match us, hl with | [_], _ => rfl) (fun cdv A outer s H vs Q E hr h => ?_)
  · obtain ⟨_, _, rfl, _⟩ := h
    rfl
  · obtain ⟨v, d, rfl, hv, ha, k⟩ := h
    refine ⟨_,
      (pss_one (ps_ret (pe_and (pe_callB (isiK (K := K) rfl) (by rfl) B.isinstance_ (by decide +kernel) (pa_cons (pv 0) (pa_cons (pe_bltn (v := .ty "int") rfl B.int_ (by decide +kernel) rfl) pa_nil))) (pe_one (pe_not (pe_callB (isiK (K := K) rfl) (by rfl) B.isinstance_ (by decide +kernel) (pa_cons (pv 0) (pa_cons (pe_bltn (v := .ty "bool") rfl B.bool_ (by decide +kernel) rfl) pa_nil))))))))
      , ?_⟩
    walk_at "rd2"
    cases hv with
    | non => exact isi_d (K := K) (b := "int") (r := false) .non (by decide +kernel) ⟨false, rfl, k⟩
    | int i => exact isi_i (r := true) (by decide +kernel) ⟨true, rfl, ifT rfl <| isi_i (r := false) (by decide +kernel) ⟨false, rfl, k⟩⟩
    | str x => exact isi_s (r := false) (by decide +kernel) ⟨false, rfl, k⟩
    | tup _ _ => cases ha
abbrev N_is_integer_joins : List Str := ["value"]
theorem sc_is_integer_joins : FnScope N_is_integer_joins ["value"] (defScope s_is_integer_joins) := ⟨rfl, rfl, rfl, by decide +kernel, rfl, by decide +kernel, by decide +kernel⟩
theorem ok_is_integer_joins (B : Bs mg) (hg : mg "is_integer_joins" = some (.ref f)) (F : FnP K "is_integer" s_is_integer_joins f fd) : Df P w K mg base "is_integer_joins" 1 ["value"] sp_isint := by
  refine df_mk hg F sc_is_integer_joins (fun vs H Q E h => ?_) (fun _ _ _ _ _ _ us hl => match us, hl with | [_], _ => rfl) (fun cdv A outer s H vs Q E hr h => ?_)
  · obtain ⟨_, _, rfl, _⟩ := h
    rfl
  · obtain ⟨v, d, rfl, hv, ha, k⟩ := h
    refine ⟨_,
      (pss_one (ps_ret (pe_and (pe_callB (isiK (K := K) rfl) (by rfl) B.isinstance_ (by decide +kernel) (pa_cons (pv 0) (pa_cons (pe_bltn (v := .ty "int") rfl B.int_ (by decide +kernel) rfl) pa_nil))) (pe_one (pe_not (pe_callB (isiK (K := K) rfl) (by rfl) B.isinstance_ (by decide +kernel) (pa_cons (pv 0) (pa_cons (pe_bltn (v := .ty "bool") rfl B.bool_ (by decide +kernel) rfl) pa_nil))))))))
      , ?_⟩
    walk_at "rd2"
    cases hv with
    | non => exact isi_d (K := K) (b := "int") (r := false) .non (by decide +kernel) ⟨false, rfl, k⟩
    | int i => exact isi_i (r := true) (by decide +kernel) ⟨true, rfl, ifT rfl <| isi_i (r := false) (by decide +kernel) ⟨false, rfl, k⟩⟩
    | str x => exact isi_s (r := false) (by decide +kernel) ⟨false, rfl, k⟩
    | tup _ _ => cases ha
abbrev N_is_value : List Str := ["value", "sign"]
theorem sc_is_value : FnScope N_is_value ["value"] (defScope s_is_value) := ⟨rfl, rfl, rfl, by decide +kernel, rfl, by decide +kernel, by decide +kernel⟩
theorem ok_is_value (B : Bs mg) (D_is_integer_values : Df P w K mg base "is_integer_values" 1 ["value"] sp_isint) (hg : mg "is_value" = some (.ref f)) (F : FnP K "is_value" s_is_value f fd) : Df P w K mg base "is_value" 2 ["value"] (sp_isval T) := by
  refine df_mk hg F sc_is_value (fun vs H Q E h => ?_) (fun _ _ _ _ _ _ us hl => match us, hl with | [_], _ => rfl) (fun cdv A outer s H vs Q E hr h => ?_)
  · obtain ⟨_, _, rfl, _⟩ := h
    rfl
  · obtain ⟨v, d, rfl, hv, ha, k⟩ := h
    refine ⟨_,
      (pss_cons (ps_if (PW.pt (pw_or (pt_cmpR op_isN (pv 0) pe_non (nomark _)) (pw_or1 (pt_val (pe_df D_is_integer_values hr (pa_cons (pv 0) pa_nil)))))) (pss_one (ps_ret pe_bl))
    pss_nil)
    (pss_one (ps_ret (pe_and (pe_callB (isiK (K := K) rfl) (by rfl) B.isinstance_ (by decide +kernel) (pa_cons (pv 0) (pa_cons (pe_bltn (v := .ty "str") rfl B.str_ (by decide +kernel) rfl) pa_nil))) (pe_and (pe_cmpR op_lt (pe_callB (call_len_str) (by rfl) B.len_ (by decide +kernel) (pa_cons (pv 0) pa_nil)) pe_int (nomark _)) (pe_one (pe_callB (allK (K := K) rfl rfl) (by rfl) B.all_ (by decide +kernel) (pa_cons (pe_lc (own := [("sign", 1)]) (by rfl) sc_is_value.nd (pi_str (pv 0)) (blkOk_by (N := N_is_value) (sc := defScope s_is_value) (by decide +kernel)) (fun _ _ _ _ _ => (pg_name (i := 1) sc_is_value.nd rfl (by first | exact Or.inl rfl | exact Or.inr rfl))) (fun _ _ _ _ _ => pts_nil) (fun _ _ _ _ _ => (pe_cmpR op_in_str (pv 1) (pe_gs B.SIGNS) (by with_unfolding_all rfl)))) pa_nil))))))))
      , ?_⟩
    walk_at "rd2"
    cases hv with
    | non => exact ifT (by decide +kernel) (k H (Sm.refl _ _))
    | int i =>
      refine ifF rfl ⟨_, .num i, rfl, .int i, rfl, true, rfl, ?_⟩
      exact k H (Sm.refl _ _)
    | tup _ _ => cases ha
    | str x =>
      refine ifF rfl ⟨_, .text x, rfl, .str x, rfl, false, rfl, ifF rfl ?_⟩
      refine isi_s (r := true) (by decide +kernel) ⟨true, rfl, ?_⟩
      have hx : x = "a" ∨ x = "b" ∨ x = "" := by
        unfold domB at ha
        rw [Bool.or_eq_true, Bool.or_eq_true, decide_eq_true_iff, decide_eq_true_iff, decide_eq_true_iff] at ha
        rcases ha with (h | h) | h
        · exact .inl h
        · exact .inr (.inl h)
        · exact .inr (.inr h)
      have hl : x.length ≤ 1 ∧ ∀ (i : Nat) c, x.cps[i]? = some c → (!(Builtin.Str.occurrences (Str.ofString "abcdefghijklmnopqrstuvwxyzABCDEFGHIJKLMNOPQRSTUVWXYZ0123456789 -_") (⟨#[c]⟩ : Str) 0 (Str.ofString "abcdefghijklmnopqrstuvwxyzABCDEFGHIJKLMNOPQRSTUVWXYZ0123456789 -_").length 1).isEmpty) = true := by
        rcases hx with rfl | rfl | rfl
        · refine ⟨by decide +kernel, fun i c hc => ?_⟩
          match i, hc with
          | 0, hc => obtain rfl := Option.some.inj hc; decide +kernel
          | i + 1, hc => cases hc
        · refine ⟨by decide +kernel, fun i c hc => ?_⟩
          match i, hc with
          | 0, hc => obtain rfl := Option.some.inj hc; decide +kernel
          | i + 1, hc => cases hc
        · refine ⟨by decide +kernel, fun i c hc => ?_⟩
          cases hc
      refine ⟨x, rfl, sz_le' (by omega), ?_⟩
      refine ifT (decide_eq_true (by omega)) ?_
      refine ⟨.str x, rfl, x, rfl, fun D hD => ?_⟩
      refine lc_dat (T := T) walk_str (fun (_ : Hp) v (b : Bool) => v = .bl b) (fun i => some true) hD (fun _ _ => trivial) (by have := hl.1; show x.cps.size ≤ _; have : x.cps.size = x.length := rfl; omega) (fun _ _ _ _ _ r => r) (fun i y H1 H2 hi e hDs hy Qy Qn hyy hnn => ?_) (fun H1 ys e hD' pr => ?_)
      · obtain ⟨rfl, c, hc, rfl⟩ := hy
        walk_at "rd2"
        rw [hl.2 i c hc]
        exact hyy _ true H2 rfl (Sm.refl _ _) rfl
      · rw [fm_map] at pr
        obtain ⟨bs, rfl, hb⟩ := bls_all pr fun b hb => by
          obtain ⟨_, _, rfl⟩ := List.mem_map.mp hb
          rfl
        refine ⟨D, bs, rfl, .inl (.inl hD'), ?_⟩
        rw [hb]
        exact k H1 e
abbrev N_is_row : List Str := ["value", "one"]
theorem sc_is_row : FnScope N_is_row ["value"] (defScope s_is_row) := ⟨rfl, rfl, rfl, by decide +kernel, rfl, by decide +kernel, by decide +kernel⟩
theorem ok_is_row (B : Bs mg) (D_is_integer_joins : Df P w K mg base "is_integer_joins" 1 ["value"] sp_isint) (D_is_value : Df P w K mg base "is_value" 2 ["value"] (sp_isval T)) (hg : mg "is_row" = some (.ref f)) (F : FnP K "is_row" s_is_row f fd) : Df P w K mg base "is_row" 3 ["value"] (sp_isrow T) := by
  refine df_mk hg F sc_is_row (fun vs H Q E h => ?_) (fun _ _ _ _ _ _ us hl => match us, hl with | [_], _ => rfl) (fun cdv A outer s H vs Q E hr h => ?_)
  · obtain ⟨_, _, rfl, _⟩ := h
    rfl
  · obtain ⟨v, r, rfl, hv, ht, hs, hvs, hl, k⟩ := h
    refine ⟨_,
      (pss_cons (ps_if (PW.pt (pw_or (pt_not (pt_val (pe_callB (isiK (K := K) rfl) (by rfl) B.isinstance_ (by decide +kernel) (pa_cons (pv 0) (pa_cons (pe_bltn (v := .ty "tuple") rfl B.tuple_ (by decide +kernel) rfl) pa_nil))))) (pw_or (pt_cmpR op_ne (pe_callB (lenK (K := K) rfl) (by rfl) B.len_ (by decide +kernel) (pa_cons (pv 0) pa_nil)) pe_int (nomark _)) (pw_or (pt_not (pt_val (pe_df D_is_integer_joins hr (pa_cons (pe_ix (ix_tupK (K := K) rfl) (pv 0) pe_int (fun _ _ => rfl)) pa_nil)))) (pw_or1 (pt_not (pt_val (pe_df D_is_integer_joins hr (pa_cons (pe_ix (ix_tupK (K := K) rfl) (pv 0) pe_int (fun _ _ => rfl)) pa_nil))))))))) (pss_one (ps_ret pe_bl))
    pss_nil)
    (pss_cons (ps_if (PW.pt (pw_or (pt_cmpR op_lt (pe_ix (ix_tupK (K := K) rfl) (pv 0) pe_int (fun _ _ => rfl)) pe_int (nomark _)) (pw_or (pt_cmpR (op_notInK (K := K) rfl) (pe_ix (ix_tupK (K := K) rfl) (pv 0) pe_int (fun _ _ => rfl)) (pe_tup (pa_cons pe_int (pa_cons (pe_un un_neg pe_int) pa_nil))) (by with_unfolding_all rfl)) (pw_or1 (pt_not (pt_val (pe_callB (isiK (K := K) rfl) (by rfl) B.isinstance_ (by decide +kernel) (pa_cons (pe_ix (ix_tupK (K := K) rfl) (pv 0) pe_int (fun _ _ => rfl)) (pa_cons (pe_bltn (v := .ty "tuple") rfl B.tuple_ (by decide +kernel) rfl) pa_nil))))))))) (pss_one (ps_ret pe_bl))
    pss_nil)
    (pss_one (ps_ret (pe_callB (allK (K := K) rfl rfl) (by rfl) B.all_ (by decide +kernel) (pa_cons (pe_lc (own := [("one", 1)]) (by rfl) sc_is_row.nd (pi_tupK (K := K) rfl (pe_ix (ix_tupK (K := K) rfl) (pv 0) pe_int (fun _ _ => rfl))) (blkOk_by (N := N_is_row) (sc := defScope s_is_row) (by decide +kernel)) (fun _ _ _ _ _ => (pg_name (i := 1) sc_is_row.nd rfl (by first | exact Or.inl rfl | exact Or.inr rfl))) (fun _ _ _ _ _ => pts_nil) (fun _ _ _ _ _ => (pe_df D_is_value hr (pa_cons (pv 1) pa_nil)))) pa_nil))))))
      , ?_⟩
    walk_at "rd2"
    refine isi_t hv (r := true) (by decide +kernel) ⟨true, rfl, ifF rfl ?_⟩
    refine len_t hv ⟨rfl, ifF rfl ?_⟩
    refine ix_d (i := 0) hv rfl fun x1 t1 => ⟨x1, _, rfl, t1, rfl, true, rfl, ifF rfl ?_⟩
    refine ix_d (i := 1) hv rfl fun x2 t2 => ⟨x2, _, rfl, t2, rfl, true, rfl, ifF rfl ?_⟩
    refine ix_d (i := 0) hv rfl fun x3 t3 => ?_
    obtain rfl := t3.num_inv
    refine ⟨_, rfl, ifF (decide_eq_false (by omega)) ?_⟩
    refine ix_d (i := 1) hv rfl fun x4 t4 => ?_
    intro p5 hp5
    have e5 : Sm T H (upd H p5 (.tup [V.int 1, V.int (-1)])) := Sm.new hp5
    have t5 : Tp (upd H p5 (.tup [V.int 1, V.int (-1)])) (.ref p5) (.tup [.num 1, .num (-1)]) := .tup (.inl upd_same) (.cons (.int 1) (.cons (.int (-1)) .nil))
    generalize upd H p5 (.tup [V.int 1, V.int (-1)]) = H5 at e5 t5
    refine in_t (Tp.ts e5.ts _ _ t4) rfl t5 rfl ⟨_, rfl, ifF ?_ ?_⟩
    · show (!decide (NestedKey.num r.s ∈ [NestedKey.num 1, .num (-1)])) = false
      rcases hs with h | h <;> rw [h] <;> decide +kernel
    refine ix_d (i := 2) (Tp.ts e5.ts _ _ hv) rfl fun x6 t6 => ?_
    refine isi_t t6 (r := true) (by decide +kernel) ⟨true, rfl, ifF rfl ?_⟩
    refine lcT (T := T) r.vs id (fun _ _ v (b : Bool) => v = .bl b) (fun _ => some true) (fun Q' k' => ?_) (by omega) (fun _ _ _ _ _ _ r => r) (fun D i x d H1 hi e tx hD Qy Qn hy hnn => ?_) (fun D H1 ys e hD pr => ?_)
    · walk_at "rd2"
      rw [List.map_id] at *
      exact ix_d (i := 2) (Tp.ts e5.ts _ _ hv) rfl fun v t => k' v H5 (Sm.refl _ _) t
    · walk_at "rd2"
      exact ⟨x, d, rfl, tx, List.all_eq_true.mp hvs d (List.mem_of_getElem? hi), fun H' e => hy _ true H' rfl e rfl⟩
    · rw [fm_map] at pr
      obtain ⟨bs, rfl, hb⟩ := bls_all pr fun b hb => by
        obtain ⟨_, _, rfl⟩ := List.mem_map.mp hb
        rfl
      refine ⟨D, bs, rfl, .inl (.inl hD), ?_⟩
      rw [hb]
      exact k H1 (e5.trans e)
end K67
end
/-! ## K67J9 -/
section
set_option maxHeartbeats 4000000
/-! K67J9: the judge -/
namespace K67
open PySem PySem.Spec PyProof.Rows L2 LamX NdefX
local macro_rules | `(tactic| walk_at "sm") => `(tactic| first | assumption | exact Sm.refl _ _ | (refine Sm.trans ?_ (by assumption); walk_at "sm"))
local macro_rules | `(tactic| walk_at "ts") => `(tactic| first | assumption | exact TS.refl _ | (refine TS.trans ?_ (by assumption); walk_at "ts") | (refine TS.trans ?_ (Sm.ts (by assumption)); walk_at "ts"))
local macro_rules | `(tactic| walk_at "tp") => `(tactic| first | assumption | exact Tp.int _ | exact Tp.str _ | exact Tp.non | (refine Tp.ts (H := ?_) ?_ _ _ (by assumption); walk_at "ts"))
local macro_rules | `(tactic| walk_at "tps") => `(tactic| first | assumption | exact Tps.nil | (refine Tps.cons ?_ ?_; · walk_at "tp"; · walk_at "tps") | (refine Tps.ts (H := ?_) ?_ _ _ (by assumption); walk_at "ts"))
local macro_rules | `(tactic| walk_at "rd") => `(tactic| try simp only [rMax2, and_assoc, tYes, tSeq, tIfS, tRet, tNext, tTest, tB, tOp, tUn, tVar, tC, tTup, tLst, tCons, tNil, tIf, tCB, tCall, tBM, tBM0, tAsg, gName, gCons, gNil, gSub, tDrop, tPar, tPar3, tAug, tAnd, tOr, tNot, tAndV, tOrV, tNotV, tChain, tSl, tPart, tNoPart, rI0, rI, rU, rEq, rNe, L2.start, wipe, sz0, sz1, sz2, sz3, sz4, sz5, sz6, List.map_cons, List.map_nil, List.length_cons, List.length_nil, List.cons_append, List.nil_append, List.append_nil, List.getElem?_cons_zero, List.getElem?_cons_succ, List.set_cons_zero, List.set_cons_succ, List.replicate_zero, List.replicate_succ, Option.some.injEq, V.bl.injEq, V.int.injEq, V.str.injEq, List.cons.injEq, and_true, true_and, exists_eq_left', exists_eq_left, exists_eq', exists_eq, exists_and_left, Nat.reduceSub, Nat.reduceAdd, Nat.reduceLeDiff, decide_true, decide_false, if_true, if_false, Bool.false_eq_true, reduceIte])
local macro_rules | `(tactic| walk_at "rd2") => `(tactic| try simp only [tDGet, sDPut, tDNewK, tNNew, tNGet2, tNSetd, tNGet, sNPut, tTupF, tCKw, tDead, sDead, tDispN, tPairs, StX.tStar, rNeDN, rNeDN2, rMax2, and_assoc, tYes, tSeq, tIfS, tRet, tNext, tTest, tB, tOp, tUn, tVar, tC, tTup, tLst, tCons, tNil, tIf, tCB, tCall, tBM, tBM0, tAsg, gName, gCons, gNil, gSub, tDrop, tPar, tPar3, tAug, tAnd, tOr, tNot, tAndV, tOrV, tNotV, tChain, tSl, tPart, tNoPart, rI0, rI, rU, rEq, rNe, L2.start, wipe, sz0, sz1, sz2, sz3, sz4, sz5, sz6, List.map_cons, List.map_nil, List.length_cons, List.length_nil, List.cons_append, List.nil_append, List.append_nil, List.getElem?_cons_zero, List.getElem?_cons_succ, List.set_cons_zero, List.set_cons_succ, List.replicate_zero, List.replicate_succ, Option.some.injEq, V.bl.injEq, V.int.injEq, V.str.injEq, List.cons.injEq, and_true, true_and, exists_eq_left', exists_eq_left, exists_eq', exists_eq, exists_and_left, Nat.reduceSub, Nat.reduceAdd, Nat.reduceLeDiff, decide_true, decide_false, if_true, if_false, Bool.false_eq_true, reduceIte])

theorem isi_list {K : PySem.W.Frag} {H : Hp} {a : Addr} {xs : List V} {b : String} {r : Bool} {Q : VK} (h : H a = some (.lst xs)) (hk : kitB "list" b = some r) (q : Q (.bl r) H) : rIsi K [.ref a, .ty b] H Q := ⟨.ref a, .ty b, _, _, r, rfl, .ty b, .base (.lst h), kit_ty hk, q⟩
def RowDom (r : Row) : Prop := 0 ≤ r.t ∧ (r.s = 1 ∨ r.s = -1) ∧ r.vs.all domB = true ∧ r.vs.length ≤ 100
section
variable (T : List (Addr × Str))
def sp_judge : Sp := fun vs H Q _ => ∃ (vj vt vv : V) (j : Jn) (ts : List Th) (TyL TyR : Row → Prop) (F : List Row), vs = [vj, vt, vv] ∧ Tp H vj j.k ∧ LsK H vt (ts.map Th.k) ∧ JT j TyL TyR ∧ (∀ t ∈ ts, ThOk TyL TyR t) ∧ ts.length ≤ 35 ∧
  LsK H vv (F.map Row.k) ∧ F.Perm (allP j (sideRows 0 ts) (sideRows 1 ts)) ∧ (∀ r ∈ F, RowDom r) ∧ F.length ≤ 2000 ∧ ∀ H', Sm T H H' → Q .non H'
end
variable {P : Program} {w : World} {K : PySem.W.Frag} {mg : Str → Option Value} {base : Heap} {T : List (Addr × Str)} {f : Addr} {fd : FuncData}
theorem count_k (l : List Row) (r : Row) : (l.map Row.k).count r.k = l.count r := by
  induction l with
  | nil => rfl
  | cons a l ih =>
    rw [List.map_cons, List.count_cons, List.count_cons, ih]
    congr 1
    by_cases h : a = r
    · rw [if_pos (by rw [h]; simp), if_pos (by rw [h]; simp)]
    · rw [if_neg (by simpa using fun z => h (Row.k_inj z)), if_neg (by simpa using h)]
abbrev N_judge_pairs : List Str := ["join", "things", "value", "due", "row"]
theorem sc_judge_pairs : FnScope N_judge_pairs ["join", "things", "value"] (defScope s_judge_pairs) := ⟨rfl, rfl, rfl, by decide +kernel, rfl, by decide +kernel, by decide +kernel⟩
theorem ok_judge_pairs (B : Bs mg) (D_is_row : Df P w K mg base "is_row" 3 ["value"] (sp_isrow T)) (D_all_pairs : Df P w K mg base "all_pairs" 6 ["join", "things"] (sp_all_pairs T)) (hg : mg "judge_pairs" = some (.ref f)) (F : FnP K "judge_pairs" s_judge_pairs f fd) : Df P w K mg base "judge_pairs" 7 ["join", "things", "value"] (sp_judge T) := by
  refine df_mk hg F sc_judge_pairs (fun vs H Q E h => ?_) (fun _ _ _ _ _ _ us hl => match us, hl with | [_, _, _], _ => rfl) (fun cdv A outer s H vs Q E hr h => ?_)
  · obtain ⟨_, _, _, _, _, _, _, _, rfl, _⟩ := h
    rfl
  · obtain ⟨vj, vt, vv, j, ts, TyL, TyR, F, rfl, hj, hvt, jt, hty, l35, hvv, hpF, hdm, lF, k⟩ := h
    refine ⟨_,
      (pss_cons (ps_if (PW.pt (pw_or (pt_not (pt_val (pe_callB (isiK (K := K) rfl) (by rfl) B.isinstance_ (by decide +kernel) (pa_cons (pv 2) (pa_cons (pe_bltn (v := .ty "list") rfl B.list_ (by decide +kernel) rfl) pa_nil))))) (pw_or1 (pt_not (pt_val (pe_callB (allK (K := K) rfl rfl) (by rfl) B.all_ (by decide +kernel) (pa_cons (pe_lc (own := [("row", 4)]) (by rfl) sc_judge_pairs.nd (pi_listK (K := K) rfl (pv 2)) (blkOk_by (N := N_judge_pairs) (sc := defScope s_judge_pairs) (by decide +kernel)) (fun _ _ _ _ _ => (pg_name (i := 4) sc_judge_pairs.nd rfl (by first | exact Or.inl rfl | exact Or.inr rfl))) (fun _ _ _ _ _ => pts_nil) (fun _ _ _ _ _ => (pe_df D_is_row hr (pa_cons (pv 4) pa_nil)))) pa_nil))))))) (pss_one (ps_ret (pe_tup (pa_cons pe_str pa_nil))))
    pss_nil)
    (pss_cons (ps_set (i := 3) sc_judge_pairs.nd rfl (by first | exact Or.inl rfl | exact Or.inr rfl) (pe_df D_all_pairs hr (pa_cons (pv 0) (pa_cons (pv 1) pa_nil))))
    (pss_cons (ps_for PassesOwn.never rfl (pi_listK (K := K) rfl (pv 2)) (pg_name (i := 4) sc_judge_pairs.nd rfl (by first | exact Or.inl rfl | exact Or.inr rfl))
    (pss_one (ps_if (pt_cmpR op_gt (pe_bmK (K := K) rfl PySem.F.plainAttrs_list PySem.F.slot_list_count PySem.F.type_list_count (mt_cntK hr.units) (pv 2) (pa_cons (pv 4) pa_nil)) (pe_bmK (K := K) rfl PySem.F.plainAttrs_list PySem.F.slot_list_count PySem.F.type_list_count (mt_cntK hr.units) (pv 3) (pa_cons (pv 4) pa_nil)) (nomark _)) (pss_one (ps_ret (pe_tup (pa_cons pe_str (pa_cons (pv 4) pa_nil)))))
    pss_nil)))
    (pss_cons (ps_for PassesOwn.never rfl (pi_listK (K := K) rfl (pv 3)) (pg_name (i := 4) sc_judge_pairs.nd rfl (by first | exact Or.inl rfl | exact Or.inr rfl))
    (pss_one (ps_if (pt_cmpR op_lt (pe_bmK (K := K) rfl PySem.F.plainAttrs_list PySem.F.slot_list_count PySem.F.type_list_count (mt_cntK hr.units) (pv 2) (pa_cons (pv 4) pa_nil)) (pe_bmK (K := K) rfl PySem.F.plainAttrs_list PySem.F.slot_list_count PySem.F.type_list_count (mt_cntK hr.units) (pv 3) (pa_cons (pv 4) pa_nil)) (nomark _)) (pss_one (ps_ret (pe_tup (pa_cons pe_str (pa_cons (pv 4) pa_nil)))))
    pss_nil)))
    (pss_one (ps_ret pe_non))))))
      , ?_⟩
    obtain ⟨va, xs, rfl, hva, txs⟩ := hvv
    walk_at "rd2"
    refine isi_list hva (r := true) (by decide +kernel) ⟨true, rfl, ifF rfl ?_⟩
    have prr : ∀ {H1 : Hp} {xs : List V} {as : List Row}, Tps H1 xs (as.map Row.k) → Paired ((fun (H : Hp) v (t : Row) => Tp H v t.k) H1) xs as := by
      intro H1 xs as
      induction as generalizing xs with
      | nil => intro h; obtain rfl := h.nil_inv; exact .nil
      | cons a as ih => intro h; obtain ⟨v, ws, rfl, tv, tw⟩ := h.cons_inv; exact .cons tv (ih tw)
    refine lcL (T := T) F (fun H v (t : Row) => Tp H v t.k) (fun _ _ v (b : Bool) => v = .bl b) (fun _ => some true) (fun Q' k' => ?_) (by omega) (fun _ _ _ _ e t => Tp.ts e.ts _ _ t) (fun _ _ _ _ _ _ r => r) (fun D i x r H1 hi e tx hD Qy Qn hy hnn => ?_) (fun D H1 ys e hD pr => ?_)
    · walk_at "rd2"
      exact k' va xs H (Sm.refl _ _) hva (prr txs)
    · walk_at "rd2"
      have hd := hdm r (List.mem_of_getElem? hi)
      exact ⟨x, r, rfl, tx, hd.1, hd.2.1, hd.2.2.1, hd.2.2.2, fun H' e => hy _ true H' rfl e rfl⟩
    rw [fm_map] at pr
    obtain ⟨bs, rfl, hb⟩ := bls_all pr fun b hb => by
      obtain ⟨_, _, rfl⟩ := List.mem_map.mp hb
      rfl
    refine ⟨D, bs, rfl, .inl (.inl hD), ?_⟩
    rw [hb]
    refine ⟨true, rfl, ifF rfl ?_⟩
    refine ⟨vj, vt, j, ts, TyL, TyR, rfl, Tp.ts e.ts _ _ hj, lsK_sm e hvt, jt, hty, l35, fun v2 H2 e2 ⟨vd, ds, e0, hvd, tds⟩ => ?_⟩
    subst e0
    have e12 := e.trans e2
    generalize hG : (allP j (sideRows 0 ts) (sideRows 1 ts)).mergeSort (PySem.W.dataLe false fun a => (givenK a).data) = G at tds
    have pG : F.Perm G := by rw [← hG]; exact hpF.trans (List.mergeSort_perm _ _).symm
    have cG : ∀ r : Row, (F.map Row.k).count r.k = (G.map Row.k).count r.k := fun r => (pG.map Row.k).count_eq _
    have txs2 := Tps.ts e12.ts _ _ txs
    have h2a := e12.lst hva
    have dRow : ∀ q : Row, RowDom q → q.k.depth ≤ 50 := fun q hq => by
      have ha : q.vs.all atomB = true := List.all_eq_true.mpr fun d hd => by
        have := List.all_eq_true.mp hq.2.2.1 d hd
        cases d <;> first | rfl | cases this
      have h2 := depth_atoms ha
      show max 0 (max 0 (max (NestedKey.depthAll q.vs + 1) 0)) + 1 ≤ 50
      omega
    have cnt : ∀ {H' : Hp} {x : V} {r : Row} {va2 : Addr} {xs2 : List V} {L : List Row}, TS H2 H' → RowDom r → Tp H' x r.k → H' va2 = some (.lst xs2) → Tps H' xs2 (L.map Row.k) → ∀ {Q' : VK}, Q' (.int ((L.map Row.k).count r.k : Nat)) H' → rCntK (.ref va2) [x] H' Q' := fun _ hr hx h1 h2 _ q => ⟨_, _, _, _, _, rfl, rfl, h1, h2, hx, dRow _ hr, q⟩
    refine forL (IR := fun H v (t : Row) => Tp H v t.k) F (fun Q' k' => by walk_at "rd2"; exact k') h2a (prr txs2) (fun i σ' H' => (∃ z, σ' = [some vj, some vt, some (.ref va), some (.ref vd), z]) ∧ Sm T H2 H') ⟨⟨_, rfl⟩, Sm.refl _ _⟩ (fun i σ' H' _ h => h.2.lst h2a) (fun H' v b t h => Tp.ts t _ _ h) (fun i x r σ' H' N hi tsx tx pv hN => ?_) fun σ' H' tsx pv => ?_
    · obtain ⟨⟨z, rfl⟩, e3⟩ := pv
      walk_at "rd2"
      have hr := hdm r (List.mem_of_getElem? hi)
      refine ⟨tyl (e3.lst h2a), cnt tsx hr tx (e3.lst h2a) (Tps.ts tsx _ _ txs2) ⟨tyl (e3.lst hvd), cnt tsx hr tx (e3.lst hvd) (Tps.ts tsx _ _ tds) ⟨_, rfl, _, rfl, ?_⟩⟩⟩
      refine ifF (decide_eq_false ?_) ?_
      · rw [cG r]
        omega
      · exact hN _ _ (TS.refl _) ⟨⟨_, rfl⟩, e3⟩
    · obtain ⟨⟨z, rfl⟩, e3⟩ := pv
      walk_at "rd2"
      have h3a := e3.lst h2a
      have h3d := e3.lst hvd
      have tds3 := Tps.ts tsx _ _ tds
      have txs3 := Tps.ts tsx _ _ txs2
      refine forL (IR := fun H v (t : Row) => Tp H v t.k) G (fun Q' k' => by walk_at "rd2"; exact k') h3d (prr tds3) (fun i σ' H'' => (∃ z, σ' = [some vj, some vt, some (.ref va), some (.ref vd), z]) ∧ Sm T H' H'') ⟨⟨_, rfl⟩, Sm.refl _ _⟩ (fun i σ' H'' _ h => h.2.lst h3d) (fun H' v b t h => Tp.ts t _ _ h) (fun i x r σ' H'' N hi tsx' tx pv hN => ?_) fun σ' H'' tsx' pv => ?_
      · obtain ⟨⟨z, rfl⟩, e4⟩ := pv
        walk_at "rd2"
        have hr := hdm r (pG.mem_iff.mpr (List.mem_of_getElem? hi))
        refine ⟨tyl (e4.lst h3a), cnt (tsx.trans tsx') hr tx (e4.lst h3a) (Tps.ts tsx' _ _ txs3) ⟨tyl (e4.lst h3d), cnt (tsx.trans tsx') hr tx (e4.lst h3d) (Tps.ts tsx' _ _ tds3) ⟨_, rfl, _, rfl, ?_⟩⟩⟩
        refine ifF (decide_eq_false ?_) ?_
        · rw [cG r]
          omega
        · exact hN _ _ (TS.refl _) ⟨⟨_, rfl⟩, e4⟩
      · obtain ⟨⟨z, rfl⟩, e4⟩ := pv
        walk_at "rd2"
        exact k _ ((e12.trans e3).trans e4)
end K67
end
/-! ## K67L1 -/
section
set_option maxHeartbeats 4000000
/-! K67L1: the law's own rank, key, meet, pair -/
namespace K67
open PySem PySem.Spec PyProof.Rows L2 LamX NdefX
local macro_rules | `(tactic| walk_at "sm") => `(tactic| first | assumption | exact Sm.refl _ _ | (refine Sm.trans ?_ (by assumption); walk_at "sm"))
local macro_rules | `(tactic| walk_at "ts") => `(tactic| first | assumption | exact TS.refl _ | (refine TS.trans ?_ (by assumption); walk_at "ts") | (refine TS.trans ?_ (Sm.ts (by assumption)); walk_at "ts"))
local macro_rules | `(tactic| walk_at "tp") => `(tactic| first | assumption | exact Tp.int _ | exact Tp.str _ | exact Tp.non | (refine Tp.ts (H := ?_) ?_ _ _ (by assumption); walk_at "ts"))
local macro_rules | `(tactic| walk_at "tps") => `(tactic| first | assumption | exact Tps.nil | (refine Tps.cons ?_ ?_; · walk_at "tp"; · walk_at "tps") | (refine Tps.ts (H := ?_) ?_ _ _ (by assumption); walk_at "ts"))
local macro_rules | `(tactic| walk_at "rd") => `(tactic| try simp only [rMax2, and_assoc, tYes, tSeq, tIfS, tRet, tNext, tTest, tB, tOp, tUn, tVar, tC, tTup, tLst, tCons, tNil, tIf, tCB, tCall, tBM, tBM0, tAsg, gName, gCons, gNil, gSub, tDrop, tPar, tPar3, tAug, tAnd, tOr, tNot, tAndV, tOrV, tNotV, tChain, tSl, tPart, tNoPart, rI0, rI, rU, rEq, rNe, L2.start, wipe, sz0, sz1, sz2, sz3, sz4, sz5, sz6, List.map_cons, List.map_nil, List.length_cons, List.length_nil, List.cons_append, List.nil_append, List.append_nil, List.getElem?_cons_zero, List.getElem?_cons_succ, List.set_cons_zero, List.set_cons_succ, List.replicate_zero, List.replicate_succ, Option.some.injEq, V.bl.injEq, V.int.injEq, V.str.injEq, List.cons.injEq, and_true, true_and, exists_eq_left', exists_eq_left, exists_eq', exists_eq, exists_and_left, Nat.reduceSub, Nat.reduceAdd, Nat.reduceLeDiff, decide_true, decide_false, if_true, if_false, Bool.false_eq_true, reduceIte])
local macro_rules | `(tactic| walk_at "rd2") => `(tactic| try simp only [tDGet, sDPut, tDNewK, tNNew, tNGet2, tNSetd, tNGet, sNPut, tTupF, tCKw, tDead, sDead, tDispN, tPairs, StX.tStar, rNeDN, rNeDN2, rMax2, and_assoc, tYes, tSeq, tIfS, tRet, tNext, tTest, tB, tOp, tUn, tVar, tC, tTup, tLst, tCons, tNil, tIf, tCB, tCall, tBM, tBM0, tAsg, gName, gCons, gNil, gSub, tDrop, tPar, tPar3, tAug, tAnd, tOr, tNot, tAndV, tOrV, tNotV, tChain, tSl, tPart, tNoPart, rI0, rI, rU, rEq, rNe, L2.start, wipe, sz0, sz1, sz2, sz3, sz4, sz5, sz6, List.map_cons, List.map_nil, List.length_cons, List.length_nil, List.cons_append, List.nil_append, List.append_nil, List.getElem?_cons_zero, List.getElem?_cons_succ, List.set_cons_zero, List.set_cons_succ, List.replicate_zero, List.replicate_succ, Option.some.injEq, V.bl.injEq, V.int.injEq, V.str.injEq, List.cons.injEq, and_true, true_and, exists_eq_left', exists_eq_left, exists_eq', exists_eq, exists_and_left, Nat.reduceSub, Nat.reduceAdd, Nat.reduceLeDiff, decide_true, decide_false, if_true, if_false, Bool.false_eq_true, reduceIte])

def lrankK : NestedKey → NestedKey
  | .none => .tup [.num 0, .num 0, .text ""]
  | .num i => .tup [.num 1, .num i, .text ""]
  | .text s => .tup [.num 2, .num 0, .text s]
  | .tup _ => .none
def lgivenK (r : Row) : NestedKey := .tup [.num r.t, .num r.s, .tup (r.vs.map lrankK)]
section
variable (T : List (Addr × Str))
def sp_lrank : Sp := fun vs H Q _ => ∃ v d, vs = [v] ∧ Tp H v d ∧ atomB d = true ∧ ∀ v' H', Sm T H H' → Tp H' v' (lrankK d) → Q v' H'
def sp_lranks : Sp := fun vs H Q _ => ∃ v ds, vs = [v] ∧ Tp H v (.tup ds) ∧ ds.all atomB = true ∧ ds.length ≤ 1000 ∧ ∀ v' H', Sm T H H' → Tp H' v' (.tup (ds.map lrankK)) → Q v' H'
def sp_lgiven : Sp := fun vs H Q _ => ∃ (v : V) (r : Row), vs = [v] ∧ Tp H v r.k ∧ r.ok ∧ ∀ v' H', Sm T H H' → Tp H' v' (lgivenK r) → Q v' H'
end
variable {P : Program} {w : World} {K : PySem.W.Frag} {mg : Str → Option Value} {base : Heap} {T : List (Addr × Str)} {f : Addr} {fd : FuncData}
abbrev N__law_rank : List Str := ["_law_value"]
theorem sc__law_rank : FnScope N__law_rank ["_law_value"] (defScope s__law_rank) := ⟨rfl, rfl, rfl, by decide +kernel, rfl, by decide +kernel, by decide +kernel⟩
theorem ok__law_rank (B : Bs mg) (hg : mg "_law_rank" = some (.ref f)) (F : FnP K "_law_rank" s__law_rank f fd) : Df P w K mg base "_law_rank" 1 ["_law_value"] (sp_lrank T) := by
  refine df_mk hg F sc__law_rank (fun vs H Q E h => ?_) (fun _ _ _ _ _ _ us hl => match us, hl with | [_], _ => rfl) (fun cdv A outer s H vs Q E hr h => ?_)
  · obtain ⟨v, d, rfl, _⟩ := h
    rfl
  · obtain ⟨v, d, rfl, hv, ha, k⟩ := h
    refine ⟨_,
      (pss_cons (ps_if (pt_cmpR op_isN (pv 0) pe_non (nomark _)) (pss_one (ps_ret (pe_tup (pa_cons pe_int (pa_cons pe_int (pa_cons pe_str pa_nil))))))
    pss_nil)
    (pss_one (ps_ret (pe_ifExp (pt_val (pe_callB (isiK (K := K) rfl) (by rfl) B.isinstance_ (by decide +kernel) (pa_cons (pv 0) (pa_cons (pe_bltn (v := .ty "int") rfl B.int_ (by decide +kernel) rfl) pa_nil)))) (pe_tup (pa_cons pe_int (pa_cons (pv 0) (pa_cons pe_str pa_nil)))) (pe_tup (pa_cons pe_int (pa_cons pe_int (pa_cons (pv 0) pa_nil))))))))
      , ?_⟩
    walk_at "rd"
    cases hv with
    | non => exact iteT (tup_d (T := T) (Tps.cons (.int 0) (.cons (.int 0) (.cons (.str _) .nil))) fun v' H' e t => k v' H' e t)
    | int i =>
      refine iteF (isi_i (r := true) (by decide +kernel) ⟨true, rfl, iteT ?_⟩)
      exact tup_d (T := T) (Tps.cons (.int 1) (.cons (.int i) (.cons (.str _) .nil))) fun v' H' e t => k v' H' e t
    | str x =>
      refine iteF (isi_s (r := false) (by decide +kernel) ⟨false, rfl, iteF ?_⟩)
      exact tup_d (T := T) (Tps.cons (.int 2) (.cons (.int 0) (.cons (.str x) .nil))) fun v' H' e t => k v' H' e t
    | tup _ _ => cases ha
abbrev N__law_ranks : List Str := ["_law_values", "_law_value"]
theorem sc__law_ranks : FnScope N__law_ranks ["_law_values"] (defScope s__law_ranks) := ⟨rfl, rfl, rfl, by decide +kernel, rfl, by decide +kernel, by decide +kernel⟩
theorem ok__law_ranks (B : Bs mg) (D__law_rank : Df P w K mg base "_law_rank" 1 ["_law_value"] (sp_lrank T)) (hg : mg "_law_ranks" = some (.ref f)) (F : FnP K "_law_ranks" s__law_ranks f fd) : Df P w K mg base "_law_ranks" 2 ["_law_values"] (sp_lranks T) := by
  refine df_mk hg F sc__law_ranks (fun vs H Q E h => ?_) (fun _ _ _ _ _ _ us hl => match us, hl with | [_], _ => rfl) (fun cdv A outer s H vs Q E hr h => ?_)
  · obtain ⟨_, _, rfl, _⟩ := h
    rfl
  · obtain ⟨v, ds, rfl, hv, ha, hl, k⟩ := h
    refine ⟨_,
      (pss_one (ps_ret (pe_callTy (tupOfK (K := K) rfl) (by rfl) B.tuple_ (by decide +kernel) (pa_cons (pe_lc (own := [("_law_value", 1)]) (by rfl) sc__law_ranks.nd (pi_tupK (K := K) rfl (pv 0)) (blkOk_by (N := N__law_ranks) (sc := defScope s__law_ranks) (by decide +kernel)) (fun _ _ _ _ _ => (pg_name (i := 1) sc__law_ranks.nd rfl (by first | exact Or.inl rfl | exact Or.inr rfl))) (fun _ _ _ _ _ => pts_nil) (fun _ _ _ _ _ => (pe_df D__law_rank hr (pa_cons (pv 1) pa_nil)))) pa_nil))))
      , ?_⟩
    walk_at "rd"
    refine lcT (T := T) ds id (fun _ => Tp) (fun d => some (lrankK d)) (fun Q' k => ?_) (by omega) r_tp (fun D i x d H1 hi e tx hD Qy Qn hy hn => ?_) (fun D H1 ys e hD pr => ?_)
    · walk_at "rd"
      exact k v H (Sm.refl _ _) (by rw [List.map_id]; exact hv)
    · walk_at "rd"
      exact ⟨x, d, rfl, tx, List.all_eq_true.mp ha d (List.mem_of_getElem? hi), fun v' H' e t => hy v' _ H' rfl e t⟩
    · exact tuple_d (T := T) hD (Tps.of pr) fun v' H' e' t => k v' H' (e.trans e') (by rw [fm_map] at t; exact t)
abbrev N__law_key : List Str := ["_law_places", "_law_side", "_law_values", "_law_k"]
theorem sc__law_key : FnScope N__law_key ["_law_places", "_law_side", "_law_values"] (defScope s__law_key) := ⟨rfl, rfl, rfl, by decide +kernel, rfl, by decide +kernel, by decide +kernel⟩
theorem ok__law_key (B : Bs mg) (hg : mg "_law_key" = some (.ref f)) (F : FnP K "_law_key" s__law_key f fd) : Df P w K mg base "_law_key" 1 ["_law_places", "_law_side", "_law_values"] (sp_key_of T) := by
  refine df_mk hg F sc__law_key (fun vs H Q E h => ?_) (fun _ _ _ _ _ _ us hl => match us, hl with | [_, _, _], _ => rfl) (fun cdv A outer s H vs Q E hr h => ?_)
  · obtain ⟨_, _, _, _, _, _, rfl, _⟩ := h
    rfl
  · obtain ⟨vj, vv, l, j, side, ds, rfl, hj, hs, hv, hi, hl, k⟩ := h
    refine ⟨_,
      (pss_one (ps_ret (pe_callTy (tupOfK (K := K) rfl) (by rfl) B.tuple_ (by decide +kernel) (pa_cons (pe_lc (own := [("_law_k", 3)]) (by rfl) sc__law_key.nd (pi_tupK (K := K) rfl (pe_ix (ix_tupK (K := K) rfl) (pv 0) (pv 1) (fun _ _ => rfl))) (blkOk_by (N := N__law_key) (sc := defScope s__law_key) (by decide +kernel)) (fun _ _ _ _ _ => (pg_name (i := 3) sc__law_key.nd rfl (by first | exact Or.inl rfl | exact Or.inr rfl))) (fun _ _ _ _ _ => pts_nil) (fun _ _ _ _ _ => (pe_ix (ix_tupK (K := K) rfl) (pv 2) (pv 3) (fun _ _ => rfl)))) pa_nil))))
      , ?_⟩
    walk_at "rd"
    refine lcT (T := T) l (fun (i : Nat) => NestedKey.num (i : Int)) (fun _ => Tp) (fun i => some (ds.getD i .none)) (fun Q' k => ?_) (by omega) r_tp (fun D i x a H1 ha1 e tx hD Qy Qn hy hn => ?_) (fun D H1 ys e hD pr => ?_)
    · walk_at "rd"
      exact ix_d hj hs fun v tv => k v H (Sm.refl _ _) tv
    · walk_at "rd"
      obtain rfl := tx.num_inv
      have ha := hi a (List.mem_of_getElem? ha1)
      exact ix_d (d := ds.getD a .none) (Tp.ts e.ts _ _ hv) (by rw [List.getD_eq_getElem?_getD, List.getElem?_eq_getElem ha]; rfl) fun v tv => hy v _ H1 rfl (Sm.refl _ _) tv
    · exact tuple_d (T := T) hD (Tps.of pr) fun v' H' e' t => k v' H' (e.trans e') (by rw [fm_map] at t; exact t)
abbrev N__law_meet : List Str := ["_law_places", "_law_one", "_law_other"]
theorem sc__law_meet : FnScope N__law_meet ["_law_places", "_law_one", "_law_other"] (defScope s__law_meet) := ⟨rfl, rfl, rfl, by decide +kernel, rfl, by decide +kernel, by decide +kernel⟩
theorem ok__law_meet (B : Bs mg) (D__law_key : Df P w K mg base "_law_key" 1 ["_law_places", "_law_side", "_law_values"] (sp_key_of T)) (hg : mg "_law_meet" = some (.ref f)) (F : FnP K "_law_meet" s__law_meet f fd) : Df P w K mg base "_law_meet" 2 ["_law_places", "_law_one", "_law_other"] (sp_do_meet T) := by
  refine df_mk hg F sc__law_meet (fun vs H Q E h => ?_) (fun _ _ _ _ _ _ us hl => match us, hl with | [_, _, _], _ => rfl) (fun cdv A outer s H vs Q E hr h => ?_)
  · obtain ⟨_, _, _, _, _, _, rfl, _⟩ := h
    rfl
  · obtain ⟨vj, v1, v2, j, a, b, rfl, hj, h1, h2, ok, oa, ob, k⟩ := h
    refine ⟨_,
      (pss_cons (ps_if (pt_cmpR (op_neK hr.units) (pe_df D__law_key hr (pa_cons (pv 0) (pa_cons pe_int (pa_cons (pe_ix (ix_tupK (K := K) rfl) (pv 1) pe_int (fun _ _ => rfl)) pa_nil)))) (pe_df D__law_key hr (pa_cons (pv 0) (pa_cons pe_int (pa_cons (pe_ix (ix_tupK (K := K) rfl) (pv 2) pe_int (fun _ _ => rfl)) pa_nil)))) (nomark _)) (pss_one (ps_ret pe_bl))
    pss_nil)
    (pss_one (ps_ret (pe_and (pe_cmpR op_le (pe_op op_sub (pe_ix (ix_tupK (K := K) rfl) (pv 1) pe_int (fun _ _ => rfl)) (pe_ix (ix_tupK (K := K) rfl) (pv 0) pe_int (fun _ _ => rfl))) (pe_ix (ix_tupK (K := K) rfl) (pv 2) pe_int (fun _ _ => rfl)) (nomark _)) (pe_one (pe_cmpR op_le (pe_op op_sub (pe_ix (ix_tupK (K := K) rfl) (pv 2) pe_int (fun _ _ => rfl)) (pe_ix (ix_tupK (K := K) rfl) (pv 0) pe_int (fun _ _ => rfl))) (pe_ix (ix_tupK (K := K) rfl) (pv 1) pe_int (fun _ _ => rfl)) (nomark _)))))))
      , ?_⟩
    walk_at "rd"
    refine ix_d (i := 2) h1 rfl fun x1 t1 => ?_
    refine ⟨vj, x1, j.l, _, 0, _, rfl, hj, rfl, t1, ok.l, by have := ok.ll; omega, fun y1 H1 e1 u1 => ?_⟩
    refine ix_d (i := 2) (Tp.ts e1.ts _ _ h2) rfl fun x2 t2 => ?_
    refine ⟨vj, x2, j.r, _, 1, _, rfl, Tp.ts e1.ts _ _ hj, rfl, t2, ok.r, by have := ok.lr; omega, fun y2 H2 e2 u2 => ?_⟩
    refine ⟨_, _, Tp.ts e2.ts _ _ u1, u2, by rw [depth_atoms (pick_atoms oa.1)]; decide, ?_⟩
    walk_at "rd"
    by_cases hk : pickK j.l a.vs = pickK j.r b.vs
    · rw [decide_eq_true hk]
      refine iteF ?_
      have e := e1.trans e2
      have h1' := Tp.ts e.ts _ _ h1
      have h2' := Tp.ts e.ts _ _ h2
      have hj' := Tp.ts e.ts _ _ hj
      refine ix_d (i := 0) h1' rfl fun x t => ?_
      obtain rfl := t.num_inv
      refine ix_d (i := 3) hj' rfl fun x t => ?_
      obtain rfl := t.num_inv
      walk_at "rd"
      refine ix_d (i := 0) h2' rfl fun x t => ?_
      obtain rfl := t.num_inv
      walk_at "rd"
      refine ite2 (fun c1 => ?_) (fun c1 => ?_)
      · refine ix_d (i := 0) h2' rfl fun x t => ?_
        obtain rfl := t.num_inv
        refine ix_d (i := 4) hj' rfl fun x t => ?_
        obtain rfl := t.num_inv
        walk_at "rd"
        refine ix_d (i := 0) h1' rfl fun x t => ?_
        obtain rfl := t.num_inv
        walk_at "rd"
        have q := k H2 e
        unfold meetB at q
        rw [decide_eq_true hk, c1, show decide (b.t ≤ a.t + j.ahead) = decide (b.t - j.ahead ≤ a.t) from decide_eq_decide.mpr (by omega)] at q
        simpa using q
      · have q := k H2 e
        unfold meetB at q
        rw [decide_eq_true hk, (by simpa using c1 : decide (a.t - j.back ≤ b.t) = false)] at q
        simpa using q
    · rw [decide_eq_false hk]
      refine iteT ?_
      have q := k H2 (e1.trans e2)
      unfold meetB at q
      rw [decide_eq_false hk] at q
      simpa using q
abbrev N__law_pair : List Str := ["_law_places", "_law_one", "_law_other", "_law_k"]
theorem sc__law_pair : FnScope N__law_pair ["_law_places", "_law_one", "_law_other"] (defScope s__law_pair) := ⟨rfl, rfl, rfl, by decide +kernel, rfl, by decide +kernel, by decide +kernel⟩
theorem ok__law_pair (B : Bs mg) (hg : mg "_law_pair" = some (.ref f)) (F : FnP K "_law_pair" s__law_pair f fd) : Df P w K mg base "_law_pair" 1 ["_law_places", "_law_one", "_law_other"] (sp_pair T) := by
  refine df_mk hg F sc__law_pair (fun vs H Q E h => ?_) (fun _ _ _ _ _ _ us hl => match us, hl with | [_, _, _], _ => rfl) (fun cdv A outer s H vs Q E hr h => ?_)
  · obtain ⟨_, _, _, _, _, _, rfl, _⟩ := h
    rfl
  · obtain ⟨vj, v1, v2, j, a, b, rfl, hj, h1, h2, ok, oa, ob, k⟩ := h
    refine ⟨_,
      (pss_one (ps_ret (pe_tup (pa_cons (pe_callB (call_maxK rfl) (by rfl) B.max_ (by decide +kernel) (pa_cons (pe_ix (ix_tupK (K := K) rfl) (pv 1) pe_int (fun _ _ => rfl)) (pa_cons (pe_ix (ix_tupK (K := K) rfl) (pv 2) pe_int (fun _ _ => rfl)) pa_nil))) (pa_cons (pe_op op_mul (pe_ix (ix_tupK (K := K) rfl) (pv 1) pe_int (fun _ _ => rfl)) (pe_ix (ix_tupK (K := K) rfl) (pv 2) pe_int (fun _ _ => rfl))) (pa_cons (pe_op (op_catK (K := K) rfl) (pe_ix (ix_tupK (K := K) rfl) (pv 1) pe_int (fun _ _ => rfl)) (pe_callTy (tupOfK (K := K) rfl) (by rfl) B.tuple_ (by decide +kernel) (pa_cons (pe_lc (own := [("_law_k", 3)]) (by rfl) sc__law_pair.nd (pi_tupK (K := K) rfl (pe_ix (ix_tupK (K := K) rfl) (pv 0) pe_int (fun _ _ => rfl))) (blkOk_by (N := N__law_pair) (sc := defScope s__law_pair) (by decide +kernel)) (fun _ _ _ _ _ => (pg_name (i := 3) sc__law_pair.nd rfl (by first | exact Or.inl rfl | exact Or.inr rfl))) (fun _ _ _ _ _ => pts_nil) (fun _ _ _ _ _ => (pe_ix (ix_tupK (K := K) rfl) (pe_ix (ix_tupK (K := K) rfl) (pv 2) pe_int (fun _ _ => rfl)) (pv 3) (fun _ _ => rfl)))) pa_nil))) pa_nil))))))
      , ?_⟩
    walk_at "rd"
    refine ix_d (i := 0) h1 rfl fun x t => ?_
    obtain rfl := t.num_inv
    refine ix_d (i := 0) h2 rfl fun x t => ?_
    obtain rfl := t.num_inv
    walk_at "rd"
    refine ix_d (i := 1) h1 rfl fun x t => ?_
    obtain rfl := t.num_inv
    refine ix_d (i := 1) h2 rfl fun x t => ?_
    obtain rfl := t.num_inv
    walk_at "rd"
    refine ⟨.inl (by rcases oa.2.2 with z | z <;> rw [z] <;> decide), ?_⟩
    refine ix_d (i := 2) h1 rfl fun x t1 => ?_
    refine lcT (T := T) j.rest (fun (i : Nat) => NestedKey.num (i : Int)) (fun _ => Tp) (fun i => some (b.vs.getD i .none)) (fun Q' k => ?_) (by have := ok.lt; omega) r_tp (fun D i x c H1 ha1 e tx hD Qy Qn hy hn => ?_) (fun D H1 ys e hD pr => ?_)
    · walk_at "rd"
      exact ix_d (i := 2) hj rfl fun v tv => k v H (Sm.refl _ _) tv
    · walk_at "rd"
      obtain rfl := tx.num_inv
      have ha := ok.rest c (List.mem_of_getElem? ha1)
      refine ix_d (i := 2) (Tp.ts e.ts _ _ h2) rfl fun v tv => ?_
      exact ix_d (d := b.vs.getD c .none) tv (by rw [List.getD_eq_getElem?_getD, List.getElem?_eq_getElem ha]; rfl) fun v tv => hy v _ H1 rfl (Sm.refl _ _) tv
    · refine tuple_d (T := T) hD (Tps.of pr) fun v' H2 e' tR => ?_
      rw [fm_map] at tR
      have e2 := e.trans e'
      refine cat_d (T := T) (Tp.ts e2.ts _ _ t1) tR (by rw [List.length_map]; have := oa.2.1; have := ok.lt; omega) fun v3 H3 e3 t3 => ?_
      refine tup_d (T := T) (Tps.cons (.int _) (.cons (.int _) (.cons t3 .nil))) fun v4 H4 e4 t4 => ?_
      exact k v4 H4 ((e2.trans e3).trans e4) t4
abbrev N__law_given_rank : List Str := ["_law_row"]
theorem sc__law_given_rank : FnScope N__law_given_rank ["_law_row"] (defScope s__law_given_rank) := ⟨rfl, rfl, rfl, by decide +kernel, rfl, by decide +kernel, by decide +kernel⟩
theorem ok__law_given_rank (B : Bs mg) (D__law_ranks : Df P w K mg base "_law_ranks" 2 ["_law_values"] (sp_lranks T)) (hg : mg "_law_given_rank" = some (.ref f)) (F : FnP K "_law_given_rank" s__law_given_rank f fd) : Df P w K mg base "_law_given_rank" 3 ["_law_row"] (sp_lgiven T) := by
  refine df_mk hg F sc__law_given_rank (fun vs H Q E h => ?_) (fun _ _ _ _ _ _ us hl => match us, hl with | [_], _ => rfl) (fun cdv A outer s H vs Q E hr h => ?_)
  · obtain ⟨_, _, rfl, _⟩ := h
    rfl
  · obtain ⟨v, r, rfl, hv, ok, k⟩ := h
    refine ⟨_,
      (pss_one (ps_ret (pe_tup (pa_cons (pe_ix (ix_tupK (K := K) rfl) (pv 0) pe_int (fun _ _ => rfl)) (pa_cons (pe_ix (ix_tupK (K := K) rfl) (pv 0) pe_int (fun _ _ => rfl)) (pa_cons (pe_df D__law_ranks hr (pa_cons (pe_ix (ix_tupK (K := K) rfl) (pv 0) pe_int (fun _ _ => rfl)) pa_nil)) pa_nil))))))
      , ?_⟩
    walk_at "rd"
    refine ix_d (i := 0) hv rfl fun x t => ?_
    obtain rfl := t.num_inv
    refine ix_d (i := 1) hv rfl fun x t => ?_
    obtain rfl := t.num_inv
    refine ix_d (i := 2) hv rfl fun x t => ?_
    walk_at "rd"
    refine ⟨_, _, rfl, t, ok.1, by have := ok.2.1; omega, fun v2 H2 e2 t2 => ?_⟩
    walk_at "rd"
    exact tup_d (T := T) (Tps.cons (.int _) (.cons (.int _) (.cons t2 .nil))) fun v4 H4 e4 t4 => k v4 H4 (e2.trans e4) t4
end K67
end
/-! ## K67L2 -/
section
set_option maxHeartbeats 4000000
/-! K67L2: every pair, in order -/
namespace K67
open PySem PySem.Spec PyProof.Rows L2 LamX NdefX
local macro_rules | `(tactic| walk_at "sm") => `(tactic| first | assumption | exact Sm.refl _ _ | (refine Sm.trans ?_ (by assumption); walk_at "sm"))
local macro_rules | `(tactic| walk_at "ts") => `(tactic| first | assumption | exact TS.refl _ | (refine TS.trans ?_ (by assumption); walk_at "ts") | (refine TS.trans ?_ (Sm.ts (by assumption)); walk_at "ts"))
local macro_rules | `(tactic| walk_at "tp") => `(tactic| first | assumption | exact Tp.int _ | exact Tp.str _ | exact Tp.non | (refine Tp.ts (H := ?_) ?_ _ _ (by assumption); walk_at "ts"))
local macro_rules | `(tactic| walk_at "tps") => `(tactic| first | assumption | exact Tps.nil | (refine Tps.cons ?_ ?_; · walk_at "tp"; · walk_at "tps") | (refine Tps.ts (H := ?_) ?_ _ _ (by assumption); walk_at "ts"))
local macro_rules | `(tactic| walk_at "rd") => `(tactic| try simp only [rMax2, and_assoc, tYes, tSeq, tIfS, tRet, tNext, tTest, tB, tOp, tUn, tVar, tC, tTup, tLst, tCons, tNil, tIf, tCB, tCall, tBM, tBM0, tAsg, gName, gCons, gNil, gSub, tDrop, tPar, tPar3, tAug, tAnd, tOr, tNot, tAndV, tOrV, tNotV, tChain, tSl, tPart, tNoPart, rI0, rI, rU, rEq, rNe, L2.start, wipe, sz0, sz1, sz2, sz3, sz4, sz5, sz6, List.map_cons, List.map_nil, List.length_cons, List.length_nil, List.cons_append, List.nil_append, List.append_nil, List.getElem?_cons_zero, List.getElem?_cons_succ, List.set_cons_zero, List.set_cons_succ, List.replicate_zero, List.replicate_succ, Option.some.injEq, V.bl.injEq, V.int.injEq, V.str.injEq, List.cons.injEq, and_true, true_and, exists_eq_left', exists_eq_left, exists_eq', exists_eq, exists_and_left, Nat.reduceSub, Nat.reduceAdd, Nat.reduceLeDiff, decide_true, decide_false, if_true, if_false, Bool.false_eq_true, reduceIte])
local macro_rules | `(tactic| walk_at "rd2") => `(tactic| try simp only [tDGet, sDPut, tDNewK, tNNew, tNGet2, tNSetd, tNGet, sNPut, tTupF, tCKw, tDead, sDead, tDispN, tPairs, StX.tStar, rNeDN, rNeDN2, rMax2, and_assoc, tYes, tSeq, tIfS, tRet, tNext, tTest, tB, tOp, tUn, tVar, tC, tTup, tLst, tCons, tNil, tIf, tCB, tCall, tBM, tBM0, tAsg, gName, gCons, gNil, gSub, tDrop, tPar, tPar3, tAug, tAnd, tOr, tNot, tAndV, tOrV, tNotV, tChain, tSl, tPart, tNoPart, rI0, rI, rU, rEq, rNe, L2.start, wipe, sz0, sz1, sz2, sz3, sz4, sz5, sz6, List.map_cons, List.map_nil, List.length_cons, List.length_nil, List.cons_append, List.nil_append, List.append_nil, List.getElem?_cons_zero, List.getElem?_cons_succ, List.set_cons_zero, List.set_cons_succ, List.replicate_zero, List.replicate_succ, Option.some.injEq, V.bl.injEq, V.int.injEq, V.str.injEq, List.cons.injEq, and_true, true_and, exists_eq_left', exists_eq_left, exists_eq', exists_eq, exists_and_left, Nat.reduceSub, Nat.reduceAdd, Nat.reduceLeDiff, decide_true, decide_false, if_true, if_false, Bool.false_eq_true, reduceIte])

theorem rowIR_lgiven {T : List (Addr × Str)} : ∀ (H : Hp) (v : V) (a : Row) (Q : VK) (E : XK), rowIR H v a → (∀ y H', Sm T H H' → Tp H' y (lgivenK a) → Q y H') → sp_lgiven T [v] H Q E := fun H v a Q E ir k => ⟨v, a, rfl, ir.1, ir.2, k⟩
theorem depth_lranks {ds : List NestedKey} (h : ds.all atomB = true) : (NestedKey.tup (ds.map lrankK)).depth ≤ 2 := by
  show NestedKey.depthAll (ds.map lrankK) + 1 ≤ 2
  have : NestedKey.depthAll (ds.map lrankK) ≤ 1 := depth_le_all fun d hd => by
    obtain ⟨d0, h0, rfl⟩ := List.mem_map.mp hd
    have := List.all_eq_true.mp h d0 h0
    cases d0 with
    | tup _ => cases this
    | none => exact Nat.le_refl _
    | num _ => exact Nat.le_refl _
    | text _ => exact Nat.le_refl _
  omega
theorem depth_lgiven {r : Row} (h : r.vs.all atomB = true) : (lgivenK r).depth ≤ 3 := by
  have := depth_lranks h
  show max 0 (max 0 (max (NestedKey.tup (r.vs.map lrankK)).depth 0)) + 1 ≤ 3
  omega
def LAl (j : Jn) (TyL TyR : Row → Prop) : Prop := ∀ a b c d, TyL a → TyR b → TyL c → TyR d → PySem.W.alike (lgivenK (pairR j a b)).data (lgivenK (pairR j c d)).data = true
section
variable (T : List (Addr × Str))
def sp_every : Sp := fun vs H Q _ => ∃ (vp vl vr : V) (j : Jn) (L R : List Row) (TyL TyR : Row → Prop), vs = [vp, vl, vr] ∧ Tp H vp j.k ∧ LsK H vl (L.map Row.k) ∧ LsK H vr (R.map Row.k) ∧ JT j TyL TyR ∧ LAl j TyL TyR ∧ (∀ a ∈ L, TyL a) ∧ (∀ a ∈ R, TyR a) ∧ L.length ≤ 35 ∧ R.length ≤ 35 ∧
  ∀ (p : Addr) H', Fresh H p → Sm T H H' → LsK H' (.ref p) (((allP j L R).mergeSort (PySem.W.dataLe false fun a => (lgivenK a).data)).map Row.k) → Q (.ref p) H'
end
variable {P : Program} {w : World} {K : PySem.W.Frag} {mg : Str → Option Value} {base : Heap} {T : List (Addr × Str)} {f : Addr} {fd : FuncData}
abbrev N__law_every : List Str := ["_law_places", "_law_lefts", "_law_rights", "_law_found", "_law_one", "_law_other"]
theorem sc__law_every : FnScope N__law_every ["_law_places", "_law_lefts", "_law_rights"] (defScope s__law_every) := ⟨rfl, rfl, rfl, by decide +kernel, rfl, by decide +kernel, by decide +kernel⟩
theorem ok__law_every (B : Bs mg) (D__law_meet : Df P w K mg base "_law_meet" 2 ["_law_places", "_law_one", "_law_other"] (sp_do_meet T)) (D__law_pair : Df P w K mg base "_law_pair" 1 ["_law_places", "_law_one", "_law_other"] (sp_pair T)) (D__law_given_rank : Df P w K mg base "_law_given_rank" 3 ["_law_row"] (sp_lgiven T)) {q__law_given_rank : Addr} (g__law_given_rank : mg "_law_given_rank" = some (.ref q__law_given_rank)) (hg : mg "_law_every" = some (.ref f)) (F : FnP K "_law_every" s__law_every f fd) : Df P w K mg base "_law_every" 6 ["_law_places", "_law_lefts", "_law_rights"] (sp_every T) := by
  refine df_mk hg F sc__law_every (fun vs H Q E h => ?_) (fun _ _ _ _ _ _ us hl => match us, hl with | [_, _, _], _ => rfl) (fun cdv A outer s H vs Q E hr h => ?_)
  · obtain ⟨_, _, _, _, _, _, _, _, rfl, _⟩ := h
    rfl
  · obtain ⟨vp, vl, vr, j, L, R, TyL, TyR, rfl, hp, hvl, hvr, jt, lal, hL, hR, lL, lR, k⟩ := h
    refine ⟨_,
      (pss_cons (ps_set (i := 3) sc__law_every.nd rfl (by first | exact Or.inl rfl | exact Or.inr rfl) (pe_lst pa_nil))
    (pss_cons (ps_for PassesOwn.never rfl (pi_listK (K := K) rfl (pv 1)) (pg_name (i := 4) sc__law_every.nd rfl (by first | exact Or.inl rfl | exact Or.inr rfl))
    (pss_one (ps_set (i := 3) sc__law_every.nd rfl (by first | exact Or.inl rfl | exact Or.inr rfl) (pe_op op_cat (pv 3) (pe_lc (own := [("_law_other", 5)]) (by rfl) sc__law_every.nd (pi_listK (K := K) rfl (pv 2)) (blkOk_by (N := N__law_every) (sc := defScope s__law_every) (by decide +kernel)) (fun _ _ _ _ _ => (pg_name (i := 5) sc__law_every.nd rfl (by first | exact Or.inl rfl | exact Or.inr rfl))) (fun _ _ _ _ _ => (pts_one (pt_val (pe_df D__law_meet hr (pa_cons (pv 0) (pa_cons (pv 4) (pa_cons (pv 5) pa_nil))))))) (fun _ _ _ _ _ => (pe_df D__law_pair hr (pa_cons (pv 0) (pa_cons (pv 4) (pa_cons (pv 5) pa_nil))))))))))
    (pss_one (ps_ret (pe_callBK (cr_sortK (T := T) (IR := rowIR) (en := lgivenK) (q := q__law_given_rank) (fun σ => keyfn_df D__law_given_rank g__law_given_rank hr (by decide) rowIR_lgiven σ) rowIR_sm hr.units) (by rfl) B.sorted_ (by decide +kernel) (pa_cons (pv 3) pa_nil) (pk_cons (pe_glob (v := .ref q__law_given_rank) rfl g__law_given_rank rfl) pk_nil))))))
      , ?_⟩
    walk_at "rd2"
    obtain ⟨la, lx, rfl, hla, tlx⟩ := hvl
    obtain ⟨ra, rx, rfl, hra, trx⟩ := hvr
    intro p hp0
    have e0 : Sm T H (upd H p (.lst [])) := Sm.new hp0
    have h0 : (upd H p (.lst [])) p = some (.lst []) := upd_same
    generalize upd H p (.lst []) = H0 at e0 h0
    have prr : ∀ {H1 : Hp} {xs : List V} {as : List Row}, Tps H1 xs (as.map Row.k) → Paired ((fun (H : Hp) v (t : Row) => Tp H v t.k) H1) xs as := by
      intro H1 xs as
      induction as generalizing xs with
      | nil => intro h; obtain rfl := h.nil_inv; exact .nil
      | cons a as ih => intro h; obtain ⟨v, ws, rfl, tv, tw⟩ := h.cons_inv; exact .cons tv (ih tw)
    have apL : ∀ l : List Row, (allP j l R).length ≤ l.length * 35 := fun l => by
      unfold allP
      induction l with
      | nil => exact Nat.le_refl _
      | cons a l ih =>
        rw [List.flatMap_cons, List.length_append, List.length_map, List.length_cons]
        have h1 := List.length_filter_le (meetB j a) R
        omega
    refine forL (IR := fun H v (t : Row) => Tp H v t.k) L (fun Q' k' => by walk_at "rd2"; exact k') (e0.lst hla) (prr (Tps.ts e0.ts _ _ tlx)) (fun i σ' H' => (∃ fa z1 z2 xs, σ' = [some vp, some (.ref la), some (.ref ra), some (.ref fa), z1, z2] ∧ H' fa = some (.lst xs) ∧ Tps H' xs ((allP j (L.take i) R).map Row.k)) ∧ Sm T H H')
      ⟨⟨p, _, _, [], rfl, h0, .nil⟩, e0⟩ (fun i σ' H' _ h => h.2.lst hla) (fun H' v b t h => Tp.ts t _ _ h) (fun i x a σ' H' N hi tsx tx pv hN => ?_) fun σ' H' tsx pv => ?_
    · obtain ⟨⟨fa, z1, z2, xs, rfl, hfa, tfa⟩, e1⟩ := pv
      have haL := hL a (List.mem_of_getElem? hi)
      have okp := (jt.okL _ haL).1
      have hil : i < L.length := (List.getElem?_eq_some_iff.mp hi).1
      walk_at "rd2"
      refine lcL (T := T) R (fun H v (t : Row) => Tp H v t.k) (fun _ H v (r : Row) => Tp H v r.k) (fun b => if meetB j a b = true then some (pairR j a b) else none) (fun Q' k' => ?_) (by omega) (fun _ _ _ _ e t => Tp.ts e.ts _ _ t) (fun _ _ _ _ _ xb t => Tp.ts xb.1 _ _ t) (fun D i2 y b H1 hi2 e2 ty hD Qy Qn hy hnn => ?_) (fun D H1 ys e2 hD pr => ?_)
      · walk_at "rd2"
        exact k' ra rx H' (Sm.refl _ _) (e1.lst hra) (prr (Tps.ts e1.ts _ _ trx))
      · walk_at "rd2"
        have hbR := hR b (List.mem_of_getElem? hi2)
        have okq := (jt.okR _ hbR).1
        have jok := jt.jok _ _ haL hbR
        have hj2 := Tp.ts (e1.trans e2).ts _ _ hp
        have tx2 := Tp.ts e2.ts _ _ tx
        refine ⟨vp, x, y, j, a, b, rfl, hj2, tx2, ty, jok, okp, okq, fun H3 e3 => ?_⟩
        walk_at "rd2"
        refine ite2 (fun c1 => ?_) (fun c1 => ?_)
        · refine ⟨vp, x, y, j, a, b, rfl, Tp.ts e3.ts _ _ hj2, Tp.ts e3.ts _ _ tx2, Tp.ts e3.ts _ _ ty, jok, okp, okq, fun v4 H4 e4 t4 => ?_⟩
          exact hy v4 _ H4 (if_pos c1) (e3.trans e4) t4
        · exact hnn H3 (if_neg c1) e3
      · have efm : R.filterMap (fun b => if meetB j a b = true then some (pairR j a b) else none) = (R.filter (meetB j a)).map (pairR j a) := by
          generalize R = bs
          induction bs with
          | nil => rfl
          | cons b bs ih =>
            rw [List.filterMap_cons, List.filter_cons, ih]
            by_cases c : meetB j a b = true
            · rw [if_pos c, if_pos c]; rfl
            · rw [if_neg c, if_neg c]
        rw [efm] at pr
        have tys : Tps H1 ys (((R.filter (meetB j a)).map (pairR j a)).map Row.k) := by
          have key : ∀ {ys : List V} {ps : List Row}, Paired (fun v p => Tp H1 v p.k) ys ps → Tps H1 ys (ps.map Row.k) := by
            intro ys ps h
            induction h with
            | nil => exact .nil
            | cons r _ ih => exact .cons r ih
          exact key pr
        have txs1 := Tps.ts e2.ts _ _ tfa
        have l1 : xs.length ≤ 35 * 35 := by
          rw [txs1.length, List.length_map]
          refine Nat.le_trans (apL _) (Nat.mul_le_mul_right _ ?_)
          rw [List.length_take]
          omega
        have l2 : ys.length ≤ 35 := by
          rw [tys.length, List.length_map, List.length_map]
          exact Nat.le_trans (List.length_filter_le _ _) lR
        refine ⟨fa, D, xs, ys, rfl, rfl, e2.lst hfa, hD, sz_le' (by omega), fun p5 hp5 => ?_⟩
        have e5 : Sm T H1 (upd H1 p5 (.lst (xs ++ ys))) := Sm.new hp5
        refine hN _ _ (e2.trans e5).ts ⟨⟨p5, _, _, _, rfl, upd_same, ?_⟩, (e1.trans e2).trans e5⟩
        rw [List.take_add_one, hi]
        unfold allP at txs1 ⊢
        rw [List.flatMap_append, List.map_append]
        refine (Tps.ts e5.ts _ _ txs1).append (Tps.ts e5.ts _ _ ?_)
        simpa using tys
    · obtain ⟨⟨fa, z1, z2, xs, rfl, hfa, tfa⟩, e1⟩ := pv
      rw [List.take_length] at tfa
      walk_at "rd2"
      generalize hal : allP j L R = al at k tfa
      have hmem : ∀ x ∈ al, ∃ a b, TyL a ∧ TyR b ∧ x = pairR j a b := fun x hx => by
        rw [← hal] at hx
        obtain ⟨a, ha, hx⟩ := List.mem_flatMap.mp hx
        obtain ⟨b, hb, rfl⟩ := List.mem_map.mp hx
        exact ⟨a, b, hL a ha, hR b (List.mem_filter.mp hb).1, rfl⟩
      have hok : ∀ x ∈ al, x.ok := fun x hx => by
        obtain ⟨a, b, ha, hb, rfl⟩ := hmem x hx
        exact jt.pok a b ha hb
      have hlen : al.length ≤ 35 * 35 := by
        rw [← hal]
        exact Nat.le_trans (apL L) (Nat.mul_le_mul_right _ lL)
      have prr2 : Paired (rowIR H') xs al := by
        have key : ∀ {xs : List V} {as : List Row}, Paired (fun v (r : Row) => Tp H' v r.k) xs as → (∀ x ∈ as, x.ok) → Paired (rowIR H') xs as := by
          intro xs as h
          induction h with
          | nil => intro _; exact .nil
          | cons r _ ih => intro hk; exact .cons ⟨r, hk _ List.mem_cons_self⟩ (ih fun x hx => hk x (List.mem_cons_of_mem _ hx))
        exact key (prr tfa) hok
      refine ⟨fa, xs, al, rfl, rfl, hfa, prr2, by omega, ?_, .inl fun d' hd' => ?_, fun x hx => ?_, fun p8 H8 ys e8 hp8 pr8 => ?_⟩
      · intro d hd d' hd'
        obtain ⟨q, hq, rfl⟩ := List.mem_map.mp hd
        obtain ⟨q', hq', rfl⟩ := List.mem_map.mp hd'
        obtain ⟨a1, b1, ha1, hb1, rfl⟩ := hmem q hq
        obtain ⟨a2, b2, ha2, hb2, rfl⟩ := hmem q' hq'
        exact lal _ _ _ _ ha1 hb1 ha2 hb2
      · obtain ⟨q, _, rfl⟩ := List.mem_map.mp hd'
        exact ⟨_, _, rfl⟩
      · rw [depth_data]
        exact Nat.le_trans (depth_lgiven (hok x hx).1) (by omega)
      · have e9 : Sm T H8 (upd H8 p8 (.lst ys)) := Sm.new hp8
        refine k p8 _ (fresh_of (e1.trans e8) hp8) ((e1.trans e8).trans e9) ⟨p8, ys, rfl, upd_same, ?_⟩
        have key : ∀ {xs : List V} {ps : List Row}, Paired (rowIR H8) xs ps → Tps (upd H8 p8 (.lst ys)) xs (ps.map Row.k) := by
          intro xs ps h
          induction h with
          | nil => exact .nil
          | cons r _ ih => exact .cons (Tp.ts e9.ts _ _ r.1) ih
        exact key pr8
end K67
end
/-! ## K67L3 -/
section
set_option maxHeartbeats 4000000
/-! K67L3: the things -/
namespace K67
open PySem PySem.Spec PyProof.Rows L2 LamX NdefX
local macro_rules | `(tactic| walk_at "sm") => `(tactic| first | assumption | exact Sm.refl _ _ | (refine Sm.trans ?_ (by assumption); walk_at "sm"))
local macro_rules | `(tactic| walk_at "ts") => `(tactic| first | assumption | exact TS.refl _ | (refine TS.trans ?_ (by assumption); walk_at "ts") | (refine TS.trans ?_ (Sm.ts (by assumption)); walk_at "ts"))
local macro_rules | `(tactic| walk_at "tp") => `(tactic| first | assumption | exact Tp.int _ | exact Tp.str _ | exact Tp.non | (refine Tp.ts (H := ?_) ?_ _ _ (by assumption); walk_at "ts"))
local macro_rules | `(tactic| walk_at "tps") => `(tactic| first | assumption | exact Tps.nil | (refine Tps.cons ?_ ?_; · walk_at "tp"; · walk_at "tps") | (refine Tps.ts (H := ?_) ?_ _ _ (by assumption); walk_at "ts"))
local macro_rules | `(tactic| walk_at "rd") => `(tactic| try simp only [rMax2, and_assoc, tYes, tSeq, tIfS, tRet, tNext, tTest, tB, tOp, tUn, tVar, tC, tTup, tLst, tCons, tNil, tIf, tCB, tCall, tBM, tBM0, tAsg, gName, gCons, gNil, gSub, tDrop, tPar, tPar3, tAug, tAnd, tOr, tNot, tAndV, tOrV, tNotV, tChain, tSl, tPart, tNoPart, rI0, rI, rU, rEq, rNe, L2.start, wipe, sz0, sz1, sz2, sz3, sz4, sz5, sz6, List.map_cons, List.map_nil, List.length_cons, List.length_nil, List.cons_append, List.nil_append, List.append_nil, List.getElem?_cons_zero, List.getElem?_cons_succ, List.set_cons_zero, List.set_cons_succ, List.replicate_zero, List.replicate_succ, Option.some.injEq, V.bl.injEq, V.int.injEq, V.str.injEq, List.cons.injEq, and_true, true_and, exists_eq_left', exists_eq_left, exists_eq', exists_eq, exists_and_left, Nat.reduceSub, Nat.reduceAdd, Nat.reduceLeDiff, decide_true, decide_false, if_true, if_false, Bool.false_eq_true, reduceIte])
local macro_rules | `(tactic| walk_at "rd2") => `(tactic| try simp only [tDGet, sDPut, tDNewK, tNNew, tNGet2, tNSetd, tNGet, sNPut, tTupF, tCKw, tDead, sDead, tDispN, tPairs, StX.tStar, rNeDN, rNeDN2, rMax2, and_assoc, tYes, tSeq, tIfS, tRet, tNext, tTest, tB, tOp, tUn, tVar, tC, tTup, tLst, tCons, tNil, tIf, tCB, tCall, tBM, tBM0, tAsg, gName, gCons, gNil, gSub, tDrop, tPar, tPar3, tAug, tAnd, tOr, tNot, tAndV, tOrV, tNotV, tChain, tSl, tPart, tNoPart, rI0, rI, rU, rEq, rNe, L2.start, wipe, sz0, sz1, sz2, sz3, sz4, sz5, sz6, List.map_cons, List.map_nil, List.length_cons, List.length_nil, List.cons_append, List.nil_append, List.append_nil, List.getElem?_cons_zero, List.getElem?_cons_succ, List.set_cons_zero, List.set_cons_succ, List.replicate_zero, List.replicate_succ, Option.some.injEq, V.bl.injEq, V.int.injEq, V.str.injEq, List.cons.injEq, and_true, true_and, exists_eq_left', exists_eq_left, exists_eq', exists_eq, exists_and_left, Nat.reduceSub, Nat.reduceAdd, Nat.reduceLeDiff, decide_true, decide_false, if_true, if_false, Bool.false_eq_true, reduceIte])

abbrev SE := Nat × En
def SE.k (p : SE) : NestedKey := .tup [.num (p.1 : Int), p.2.k]
structure Mk where
  a : Int
  b : Int
  last : Int
  out : List Th
def Mk.step (x : Mk) (p : SE) : Mk := match p.2 with
  | .row r => { x with out := x.out ++ [.row p.1 r] }
  | .mark m =>
    let a := if p.1 = 0 then max x.a m else x.a
    let b := if p.1 = 0 then x.b else max x.b m
    if x.last < min a b then ⟨a, b, min a b, x.out ++ [.mark (min a b)]⟩ else ⟨a, b, x.last, x.out⟩
def mkA (x : Mk) (s : Nat) (m : Int) : Int := if s = 0 then max x.a m else x.a
def mkB (x : Mk) (s : Nat) (m : Int) : Int := if s = 0 then x.b else max x.b m
theorem mk_pos {x : Mk} {s : Nat} {m : Int} (c : x.last < min (mkA x s m) (mkB x s m)) : x.step (s, .mark m) = ⟨mkA x s m, mkB x s m, min (mkA x s m) (mkB x s m), x.out ++ [.mark (min (mkA x s m) (mkB x s m))]⟩ := if_pos c
theorem mk_neg {x : Mk} {s : Nat} {m : Int} (c : ¬ x.last < min (mkA x s m) (mkB x s m)) : x.step (s, .mark m) = ⟨mkA x s m, mkB x s m, x.last, x.out⟩ := if_neg c
theorem mk_out (x : Mk) (p : SE) : (x.step p).out.length ≤ x.out.length + 1 := by
  obtain ⟨s, e⟩ := p
  cases e with
  | row r => show (x.out ++ [_]).length ≤ _; rw [List.length_append]; exact Nat.le_refl _
  | mark m =>
    by_cases c : x.last < min (mkA x s m) (mkB x s m)
    · rw [mk_pos c]
      show (x.out ++ [_]).length ≤ _
      rw [List.length_append]
      exact Nat.le_refl _
    · rw [mk_neg c]
      exact Nat.le_succ _
def things (ps : List SE) : List Th := (ps.foldl Mk.step ⟨0, 0, 0, []⟩).out
section
variable (T : List (Addr × Str))
def sp_things : Sp := fun vs H Q _ => ∃ (v : V) (ps : List SE), vs = [v] ∧ LsK H v (ps.map SE.k) ∧ (∀ p ∈ ps, p.1 ≤ 1) ∧ ps.length ≤ 1000 ∧ ∀ v' H', Sm T H H' → LsK H' v' ((things ps).map Th.k) → Q v' H'
end
variable {P : Program} {w : World} {K : PySem.W.Frag} {mg : Str → Option Value} {base : Heap} {T : List (Addr × Str)} {f : Addr} {fd : FuncData}
abbrev N__law_things : List Str := ["_law_woven_entries", "_law_found", "_law_marks", "_law_last", "_law_side", "_law_entry"]
theorem sc__law_things : FnScope N__law_things ["_law_woven_entries"] (defScope s__law_things) := ⟨rfl, rfl, rfl, by decide +kernel, rfl, by decide +kernel, by decide +kernel⟩
theorem ok__law_things (B : Bs mg) (hg : mg "_law_things" = some (.ref f)) (F : FnP K "_law_things" s__law_things f fd) : Df P w K mg base "_law_things" 1 ["_law_woven_entries"] (sp_things T) := by
  refine df_mk hg F sc__law_things (fun vs H Q E h => ?_) (fun _ _ _ _ _ _ us hl => match us, hl with | [_], _ => rfl) (fun cdv A outer s H vs Q E hr h => ?_)
  · obtain ⟨_, _, rfl, _⟩ := h
    rfl
  · obtain ⟨v, ps, rfl, hv, hs, hl, k⟩ := h
    refine ⟨_,
      (pss_cons (ps_par3 (i := 1) (j := 2) (l := 3) (by rfl) sc__law_things.nd rfl rfl rfl (by decide) (by decide) (by decide) rfl rfl rfl (pa_cons (pe_lst pa_nil) (pa_cons (pe_lst (pa_cons pe_int (pa_cons pe_int pa_nil))) (pa_cons pe_int pa_nil))) (by rfl))
    (pss_cons (ps_for PassesOwn.never rfl (pi_listK (K := K) rfl (pv 0)) (pg_tupK (n := 2) (K := K) rfl rfl (pgs_cons (pg_name (i := 4) sc__law_things.nd rfl (by first | exact Or.inl rfl | exact Or.inr rfl)) (pgs_cons (pg_name (i := 5) sc__law_things.nd rfl (by first | exact Or.inl rfl | exact Or.inr rfl)) pgs_nil)))
    (pss_one (ps_if (pt_cmpR op_eq (pe_ix (ix_tupK (K := K) rfl) (pv 5) pe_int (fun _ _ => rfl)) pe_str (nomark _)) (pss_one (ps_expr (pe_bmK (K := K) rfl PySem.F.plainAttrs_list PySem.F.slot_list_append PySem.F.type_list_append mt_append (pv 1) (pa_cons (pe_tup (pa_cons pe_str (pa_cons (pv 4) (pa_cons (pe_slice (sl_tupK (K := K) rfl) (pv 5) (po_some pe_int) po_none) pa_nil)))) pa_nil))))
    (pss_cons (ps_asg (pe_callB (call_maxK rfl) (by rfl) B.max_ (by decide +kernel) (pa_cons (pe_ix (ix_listK (K := K) rfl) (pv 2) (pv 4) (fun _ _ => rfl)) (pa_cons (pe_ix (ix_tupK (K := K) rfl) (pv 5) pe_int (fun _ _ => rfl)) pa_nil))) (pg_sub (pv 2) (pv 4) set_list))
    (pss_one (ps_if (pt_cmpR op_gt (pe_callB (minK (K := K) rfl rfl) (by rfl) B.min_ (by decide +kernel) (pa_cons (pv 2) pa_nil)) (pv 3) (nomark _)) (pss_cons (ps_set (i := 3) sc__law_things.nd rfl (by first | exact Or.inl rfl | exact Or.inr rfl) (pe_callB (minK (K := K) rfl rfl) (by rfl) B.min_ (by decide +kernel) (pa_cons (pv 2) pa_nil)))
    (pss_one (ps_expr (pe_bmK (K := K) rfl PySem.F.plainAttrs_list PySem.F.slot_list_append PySem.F.type_list_append mt_append (pv 1) (pa_cons (pe_tup (pa_cons pe_str (pa_cons (pv 3) pa_nil))) pa_nil)))))
    pss_nil))))))
    (pss_one (ps_ret (pv 1)))))
      , ?_⟩
    walk_at "rd2"
    obtain ⟨va, vx, rfl, hva, tvx⟩ := hv
    intro p hp
    have e0 : Sm T H (upd H p (.lst [])) := Sm.new hp
    have h0 : (upd H p (.lst [])) p = some (.lst []) := upd_same
    generalize upd H p (.lst []) = H0 at e0 h0
    intro q hq
    have pq : p ≠ q := fun z => by rw [← z, h0] at hq; cases hq
    have hqF : Fresh H q := fresh_of e0 hq
    have e1 : Sm T H0 (upd H0 q (.lst [V.int 0, V.int 0])) := Sm.new hq
    have h1 : (upd H0 q (.lst [V.int 0, V.int 0])) q = some (.lst [V.int 0, V.int 0]) := upd_same
    generalize upd H0 q (.lst [V.int 0, V.int 0]) = H1 at e1 h1
    have e01 := e0.trans e1
    have pva : va ≠ p := fun z => by rw [z, hp] at hva; cases hva
    have qva : va ≠ q := fun z => by have := e0.lst hva; rw [z, hq] at this; cases this
    have prr : ∀ {H1 : Hp} {xs : List V} {as : List SE}, Tps H1 xs (as.map SE.k) → Paired ((fun (H : Hp) v (t : SE) => Tp H v t.k) H1) xs as := by
      intro H1 xs as
      induction as generalizing xs with
      | nil => intro h; obtain rfl := h.nil_inv; exact .nil
      | cons a as ih => intro h; obtain ⟨v, ws, rfl, tv, tw⟩ := h.cons_inv; exact .cons tv (ih tw)
    have outl : ∀ l : List SE, ∀ x : Mk, (l.foldl Mk.step x).out.length ≤ x.out.length + l.length := fun l => by
      induction l with
      | nil => intro x; exact Nat.le_refl _
      | cons a l ih =>
        intro x
        rw [List.foldl_cons, List.length_cons]
        have := ih (x.step a)
        have h2 := mk_out x a
        omega
    refine forL (IR := fun H v (t : SE) => Tp H v t.k) ps (fun Q' k' => by walk_at "rd2"; exact k') (e01.lst hva) (prr (Tps.ts e01.ts _ _ tvx)) (fun i σ' H' => ∃ x : Mk, x = (ps.take i).foldl Mk.step ⟨0, 0, 0, []⟩ ∧ (∃ z1 z2, σ' = [some (.ref va), some (.ref p), some (.ref q), some (.int x.last), z1, z2]) ∧ Sm T H H' ∧ H' va = some (.lst vx) ∧
      ∃ xs, H' p = some (.lst xs) ∧ Tps H' xs (x.out.map Th.k) ∧ H' q = some (.lst [.int x.a, .int x.b]))
      ⟨_, rfl, ⟨_, _, rfl⟩, e01, e01.lst hva, [], e1.lst h0, .nil, h1⟩ (fun i σ' H' _ h => let ⟨_, _, _, _, h, _⟩ := h; h) (fun H' v b t h => Tp.ts t _ _ h) (fun i v t σ' H' N hi tsx tx pv hN => ?_) fun σ' H' tsx pv => ?_
    · obtain ⟨x, hx, ⟨z1, z2, rfl⟩, e2, hva2, xs, hp2, tp2, hq2⟩ := pv
      have hil : i < ps.length := (List.getElem?_eq_some_iff.mp hi).1
      have hst := hs t (List.mem_of_getElem? hi)
      have etk : (ps.take (i + 1)).foldl Mk.step ⟨0, 0, 0, []⟩ = x.step t := by rw [List.take_add_one, hi, List.foldl_append, hx]; rfl
      have hxl : xs.length ≤ 1000 := by
        rw [tp2.length, List.length_map, hx]
        have := outl (ps.take i) ⟨0, 0, 0, []⟩
        rw [List.length_take] at this
        have h3 : (Mk.out ⟨0, 0, 0, []⟩).length = 0 := rfl
        omega
      refine gT2 tx fun v1 v2 t1 t2 => ?_
      obtain rfl := t1.num_inv
      walk_at "rd2"
      obtain ⟨s, e⟩ := t
      cases e with
      | row r =>
        refine ix_d (i := 0) t2 rfl fun y ty => ?_
        obtain rfl := ty.text_inv
        walk_at "rd2"
        refine ⟨rfl, ?_⟩
        refine ⟨tyl hp2, ?_⟩
        refine sl_d (T := T) (es := [.num r.t, .num r.s, .tup r.vs]) t2 (by rfl) fun v3 H3 e3 t3 => ?_
        intro p5 hp5
        have e5 : Sm T H3 (upd H3 p5 (.tup [V.str "row", V.int (s : Int), v3])) := Sm.new hp5
        have t5 : Tp (upd H3 p5 (.tup [V.str "row", V.int (s : Int), v3])) (.ref p5) (Th.row s r).k := tup_new hp5 (.cons (.str _) (.cons (.int _) (.cons t3 .nil)))
        generalize upd H3 p5 (.tup [V.str "row", V.int (s : Int), v3]) = H5 at e5 t5
        have e35 := e3.trans e5
        refine ⟨p, xs, .ref p5, rfl, rfl, e35.lst hp2, sz_lt' (by omega), ?_⟩
        have mu : Mu (H5 p) := by rw [e35.lst hp2]; exact mu_lst
        have ts6 : TS H5 (upd H5 p (.lst (xs ++ [.ref p5]))) := TS.mu mu
        refine hN _ _ (e35.ts.trans ts6) ⟨x.step (s, .row r), etk.symm, ⟨_, _, rfl⟩, (e2.trans e35).mut hp mu, by rw [upd_ne pva]; exact e35.lst hva2, _, upd_same, ?_, by rw [upd_ne (Ne.symm pq)]; exact e35.lst hq2⟩
        show Tps _ _ ((x.out ++ [Th.row s r]).map Th.k)
        rw [List.map_append]
        exact (Tps.ts (e35.ts.trans ts6) _ _ tp2).append (.cons (Tp.ts ts6 _ _ t5) .nil)
      | mark m =>
        refine ix_d (i := 0) t2 rfl fun y ty => ?_
        obtain rfl := ty.text_inv
        walk_at "rd2"
        refine ⟨rfl, ?_⟩
        refine ifF (by decide +kernel) ?_
        have hs1 : s ≤ 1 := hst
        obtain ⟨old, hix, hnew⟩ : ∃ old : Int, atI [V.int x.a, V.int x.b] (s : Int) = some (.int old) ∧ ∃ jj, ixN ([V.int x.a, V.int x.b]).length (s : Int) = some jj ∧ ([V.int x.a, V.int x.b]).set jj (.int (max old m)) = [V.int (mkA x s m), V.int (mkB x s m)] := by
          match s, hs1 with
          | 0, _ => exact ⟨x.a, rfl, 0, rfl, rfl⟩
          | 1, _ => exact ⟨x.b, rfl, 1, rfl, rfl⟩
        obtain ⟨jj, hj1, hj2⟩ := hnew
        refine ⟨q, _, (s : Int), .int old, rfl, rfl, .inl (.inl hq2), hix, ?_⟩
        refine ix_d (i := 1) t2 rfl fun y ty => ?_
        obtain rfl := ty.num_inv
        refine ⟨old, rfl, m, rfl, ?_⟩
        refine ⟨q, _, (s : Int), jj, rfl, rfl, hq2, hj1, ?_⟩
        rw [hj2]
        have muq : Mu (H' q) := by rw [hq2]; exact mu_lst
        have e3 : Sm T H (upd H' q (.lst [V.int (mkA x s m), V.int (mkB x s m)])) := e2.mutF hqF muq
        have ts3 : TS H' (upd H' q (.lst [V.int (mkA x s m), V.int (mkB x s m)])) := TS.mu muq
        have hq3 : (upd H' q (.lst [V.int (mkA x s m), V.int (mkB x s m)])) q = some (.lst [V.int (mkA x s m), V.int (mkB x s m)]) := upd_same
        have hp3 : (upd H' q (.lst [V.int (mkA x s m), V.int (mkB x s m)])) p = some (.lst xs) := by rw [upd_ne pq]; exact hp2
        have hva3 : (upd H' q (.lst [V.int (mkA x s m), V.int (mkB x s m)])) va = some (.lst vx) := by rw [upd_ne qva]; exact hva2
        have tp3 := Tps.ts ts3 _ _ tp2
        have t23 := Tp.ts ts3 _ _ t2
        generalize upd H' q (.lst [V.int (mkA x s m), V.int (mkB x s m)]) = H3 at e3 ts3 hq3 hp3 hva3 tp3 t23
        have hmin : ∀ {Q' : VK}, Q' (.int (min (mkA x s m) (mkB x s m))) H3 → rMin K [V.ref q] H3 Q' := fun {Q'} h => by
          refine ⟨q, [mkA x s m, mkB x s m], rfl, .inl (.inl hq3), Nat.zero_lt_succ _, fun m' hm hle => ?_⟩
          have h1 := hle _ List.mem_cons_self
          have h2 := hle _ (List.mem_cons_of_mem _ List.mem_cons_self)
          have e : m' = min (mkA x s m) (mkB x s m) := by
            rcases List.mem_cons.mp hm with rfl | hm
            · omega
            · obtain rfl := List.mem_singleton.mp hm
              omega
          rw [e]
          exact h
        refine hmin ⟨_, rfl, ?_⟩
        refine ite2 (fun c1 => ?_) (fun c1 => ?_)
        · refine hmin ⟨tyl hp3, fun p5 hp5 => ?_⟩
          have c1 := of_decide_eq_true c1
          generalize hmm : min (mkA x s m) (mkB x s m) = mm at c1
          have e5 : Sm T H3 (upd H3 p5 (.tup [V.str "mark", V.int mm])) := Sm.new hp5
          have t5 : Tp (upd H3 p5 (.tup [V.str "mark", V.int mm])) (.ref p5) (Th.mark mm).k := tup_new hp5 (.cons (.str _) (.cons (.int _) .nil))
          generalize upd H3 p5 (.tup [V.str "mark", V.int mm]) = H5 at e5 t5
          refine ⟨p, xs, .ref p5, rfl, rfl, e5.lst hp3, sz_lt' (by omega), ?_⟩
          have mu : Mu (H5 p) := by rw [e5.lst hp3]; exact mu_lst
          have ts6 : TS H5 (upd H5 p (.lst (xs ++ [.ref p5]))) := TS.mu mu
          have est : x.step (s, .mark m) = ⟨mkA x s m, mkB x s m, mm, x.out ++ [.mark mm]⟩ := by rw [← hmm] at c1 ⊢; exact mk_pos c1
          refine hN _ _ (ts3.trans (e5.ts.trans ts6)) ⟨x.step (s, .mark m), etk.symm, ⟨_, _, by rw [est]⟩, (e3.trans e5).mut hp mu, by rw [upd_ne pva]; exact e5.lst hva3, _, upd_same, ?_, by rw [upd_ne (Ne.symm pq), est]; exact e5.lst hq3⟩
          rw [est]
          show Tps _ _ ((x.out ++ [Th.mark mm]).map Th.k)
          rw [List.map_append]
          exact (Tps.ts (e5.ts.trans ts6) _ _ tp3).append (.cons (Tp.ts ts6 _ _ t5) .nil)
        · have c1 : ¬ x.last < min (mkA x s m) (mkB x s m) := fun z => c1 (decide_eq_true z)
          refine hN _ _ ts3 ⟨x.step (s, .mark m), etk.symm, ⟨_, _, by rw [mk_neg c1]⟩, e3, hva3, xs, hp3, by rw [mk_neg c1]; exact tp3, by rw [mk_neg c1]; exact hq3⟩
    · obtain ⟨x, hx, ⟨z1, z2, rfl⟩, e2, hva2, xs, hp2, tp2, hq2⟩ := pv
      rw [List.take_length] at hx
      walk_at "rd2"
      exact k _ _ e2 ⟨p, xs, rfl, hp2, by rw [hx] at tp2; exact tp2⟩
end K67
end
/-! ## K67L4 -/
section
set_option maxHeartbeats 4000000
/-! K67L4: the source of draws -/
namespace K67
open PySem PySem.Spec PyProof.Rows L2 LamX NdefX
local macro_rules | `(tactic| walk_at "sm") => `(tactic| first | assumption | exact Sm.refl _ _ | (refine Sm.trans ?_ (by assumption); walk_at "sm"))
local macro_rules | `(tactic| walk_at "ts") => `(tactic| first | assumption | exact TS.refl _ | (refine TS.trans ?_ (by assumption); walk_at "ts") | (refine TS.trans ?_ (Sm.ts (by assumption)); walk_at "ts"))
local macro_rules | `(tactic| walk_at "tp") => `(tactic| first | assumption | exact Tp.int _ | exact Tp.str _ | exact Tp.non | (refine Tp.ts (H := ?_) ?_ _ _ (by assumption); walk_at "ts"))
local macro_rules | `(tactic| walk_at "tps") => `(tactic| first | assumption | exact Tps.nil | (refine Tps.cons ?_ ?_; · walk_at "tp"; · walk_at "tps") | (refine Tps.ts (H := ?_) ?_ _ _ (by assumption); walk_at "ts"))
local macro_rules | `(tactic| walk_at "rd") => `(tactic| try simp only [rMax2, and_assoc, tYes, tSeq, tIfS, tRet, tNext, tTest, tB, tOp, tUn, tVar, tC, tTup, tLst, tCons, tNil, tIf, tCB, tCall, tBM, tBM0, tAsg, gName, gCons, gNil, gSub, tDrop, tPar, tPar3, tAug, tAnd, tOr, tNot, tAndV, tOrV, tNotV, tChain, tSl, tPart, tNoPart, rI0, rI, rU, rEq, rNe, L2.start, wipe, sz0, sz1, sz2, sz3, sz4, sz5, sz6, List.map_cons, List.map_nil, List.length_cons, List.length_nil, List.cons_append, List.nil_append, List.append_nil, List.getElem?_cons_zero, List.getElem?_cons_succ, List.set_cons_zero, List.set_cons_succ, List.replicate_zero, List.replicate_succ, Option.some.injEq, V.bl.injEq, V.int.injEq, V.str.injEq, List.cons.injEq, and_true, true_and, exists_eq_left', exists_eq_left, exists_eq', exists_eq, exists_and_left, Nat.reduceSub, Nat.reduceAdd, Nat.reduceLeDiff, decide_true, decide_false, if_true, if_false, Bool.false_eq_true, reduceIte])
local macro_rules | `(tactic| walk_at "rd2") => `(tactic| try simp only [tDGet, sDPut, tDNewK, tNNew, tNGet2, tNSetd, tNGet, sNPut, tTupF, tCKw, tDead, sDead, tDispN, tPairs, StX.tStar, rNeDN, rNeDN2, rMax2, and_assoc, tYes, tSeq, tIfS, tRet, tNext, tTest, tB, tOp, tUn, tVar, tC, tTup, tLst, tCons, tNil, tIf, tCB, tCall, tBM, tBM0, tAsg, gName, gCons, gNil, gSub, tDrop, tPar, tPar3, tAug, tAnd, tOr, tNot, tAndV, tOrV, tNotV, tChain, tSl, tPart, tNoPart, rI0, rI, rU, rEq, rNe, L2.start, wipe, sz0, sz1, sz2, sz3, sz4, sz5, sz6, List.map_cons, List.map_nil, List.length_cons, List.length_nil, List.cons_append, List.nil_append, List.append_nil, List.getElem?_cons_zero, List.getElem?_cons_succ, List.set_cons_zero, List.set_cons_succ, List.replicate_zero, List.replicate_succ, Option.some.injEq, V.bl.injEq, V.int.injEq, V.str.injEq, List.cons.injEq, and_true, true_and, exists_eq_left', exists_eq_left, exists_eq', exists_eq, exists_and_left, Nat.reduceSub, Nat.reduceAdd, Nat.reduceLeDiff, decide_true, decide_false, if_true, if_false, Bool.false_eq_true, reduceIte])

def srcK (c : Addr) (left mixed turn : Int) : List (Key × V) := [(Sum.inr "cells", .ref c), (Sum.inr "left", .int left), (Sum.inr "mixed", .int mixed), (Sum.inr "turn", .int turn)]
/-- the source at d, its cells at c -/
def Src (H : Hp) (d c : Addr) : Prop := ∃ (ns : List Int) (left mixed turn : Int), H d = some (.dK (srcK c left mixed turn)) ∧ H c = some (.lst (ns.map V.int)) ∧ 0 ≤ mixed ∧ mixed < 2147483648 ∧ 0 ≤ turn
/-- the heap behind draws: the source alone has changed, and there are new things -/
structure Dr (T : List (Addr × Str)) (d c : Addr) (H H' : Hp) : Prop where
  ts : TS H H'
  keep : ∀ a o, a ≠ d → a ≠ c → H a = some o → (∀ ps, o ≠ .tbl ps) → H' a = some o
  tabs : Tabs T H → Tabs T H'
section
variable {T : List (Addr × Str)} {d c : Addr} {H H1 H2 : Hp}
theorem Dr.refl : Dr T d c H H := ⟨TS.refl _, fun _ _ _ _ h _ => h, id⟩
theorem Dr.trans (a : Dr T d c H H1) (b : Dr T d c H1 H2) : Dr T d c H H2 := ⟨a.ts.trans b.ts, fun x o h1 h2 h n => b.keep x o h1 h2 (a.keep x o h1 h2 h n) n, fun t => b.tabs (a.tabs t)⟩
theorem Dr.of (e : Sm T H H1) : Dr T d c H H1 := ⟨e.ts, fun a o _ _ h n => e.1 a o h n, e.2⟩
theorem Dr.updd {o : HO} (mu : Mu (H d)) : Dr T d c H (upd H d o) := ⟨TS.mu mu, fun a u h1 _ h _ => by rw [upd_ne h1]; exact h, tabs_upd mu⟩
theorem Dr.updc {o : HO} (mu : Mu (H c)) : Dr T d c H (upd H c o) := ⟨TS.mu mu, fun a u _ h2 h _ => by rw [upd_ne h2]; exact h, tabs_upd mu⟩
theorem Dr.lst {a : Addr} {xs : List V} (e : Dr T d c H H1) (h1 : a ≠ d) (h2 : a ≠ c) (h : H a = some (.lst xs)) : H1 a = some (.lst xs) := e.keep a _ h1 h2 h fun ps z => by cases z
theorem Src.sm (e : Sm T H H1) (s : Src H d c) : Src H1 d c := let ⟨ns, l, m, t, h1, h2, h3⟩ := s; ⟨ns, l, m, t, e.dK h1, e.lst h2, h3⟩
theorem Src.muc (s : Src H d c) : Mu (H c) := let ⟨_, _, _, _, _, h2, _⟩ := s; by rw [h2]; exact mu_lst
theorem Src.mud (s : Src H d c) : Mu (H d) := let ⟨_, _, _, _, h1, _⟩ := s; by rw [h1]; exact mu_dK
theorem Src.ne (s : Src H d c) : d ≠ c := fun z => let ⟨_, _, _, _, h1, h2, _⟩ := s; by rw [z, h2] at h1; cases h1
end
section
variable (K : PySem.W.Frag) (T : List (Addr × Str))
def sp_open : Sp := fun vs H Q _ => ∃ (a : Addr) (ns : List Int), vs = [.ref a] ∧ SqL K H a (ns.map V.int) ∧ ns.length ≤ 63 ∧ ∀ d c H', Sm T H H' → Fresh H d → Fresh H c → Src H' d c → Q (.ref d) H'
def sp_pick : Sp := fun vs H Q _ => ∃ (d c : Addr) (most : Nat), vs = [.ref d, .int (most : Int)] ∧ Src H d c ∧ most ≤ 1000 ∧ ∀ (n : Nat) H', Dr T d c H H' → Src H' d c → n < max most 1 → Q (.int (n : Int)) H'
end
theorem SqL.sm {K : PySem.W.Frag} {T : List (Addr × Str)} {H H' : Hp} {a : Addr} {xs : List V} (e : Sm T H H') (h : SqL K H a xs) : SqL K H' a xs := by
  rcases h with (h | ⟨o, h⟩) | h
  · exact .inl (.inl (e.lst h))
  · exact .inl (.inr ⟨o, e.frz h⟩)
  · exact .inr h
variable {P : Program} {w : World} {K : PySem.W.Frag} {mg : Str → Option Value} {base : Heap} {T : List (Addr × Str)} {f : Addr} {fd : FuncData}
abbrev N__law_open_cells : List Str := ["_law_script", "_law_stirred", "_law_cell", "_law_cells"]
theorem sc__law_open_cells : FnScope N__law_open_cells ["_law_script"] (defScope s__law_open_cells) := ⟨rfl, rfl, rfl, by decide +kernel, rfl, by decide +kernel, by decide +kernel⟩
theorem ok__law_open_cells (B : Bs mg) (hg : mg "_law_open_cells" = some (.ref f)) (F : FnP K "_law_open_cells" s__law_open_cells f fd) : Df P w K mg base "_law_open_cells" 1 ["_law_script"] (sp_open K T) := by
  refine df_mk hg F sc__law_open_cells (fun vs H Q E h => ?_) (fun _ _ _ _ _ _ us hl => match us, hl with | [_], _ => rfl) (fun cdv A outer s H vs Q E hr h => ?_)
  · obtain ⟨_, _, rfl, _⟩ := h
    rfl
  · obtain ⟨a, ns, rfl, hs, hl, k⟩ := h
    refine ⟨_,
      (pss_cons (ps_set (i := 1) sc__law_open_cells.nd rfl (by first | exact Or.inl rfl | exact Or.inr rfl) pe_int)
    (pss_cons (ps_for PassesOwn.never rfl (pi_listK (K := K) rfl (pv 0)) (pg_name (i := 2) sc__law_open_cells.nd rfl (by first | exact Or.inl rfl | exact Or.inr rfl))
    (pss_one (ps_set (i := 1) sc__law_open_cells.nd rfl (by first | exact Or.inl rfl | exact Or.inr rfl) (pe_op op_mod (pe_callTy (call_int1) (by rfl) B.int_ (by decide +kernel) (pa_cons (pe_op op_add (pe_op op_add (pe_op op_mul (pv 1) pe_int) (pe_op op_mul (pv 2) pe_int)) pe_int) pa_nil)) pe_int))))
    (pss_cons (ps_setLc (i := 3) (own := [("_law_cell", 2)]) (by rfl) sc__law_open_cells.nd rfl rfl (sw_true rfl rfl rfl (by decide +kernel)) (pi_listK (K := K) rfl (pv 0)) (blkOk_by (N := N__law_open_cells) (sc := defScope s__law_open_cells) (by decide +kernel)) (fun _ _ _ _ _ => (pg_name (i := 2) sc__law_open_cells.nd rfl (by first | exact Or.inl rfl | exact Or.inr rfl))) (fun _ _ _ _ _ => pts_nil) (fun _ _ _ _ _ => (pe_callB (call_abs) (by rfl) B.abs_ (by decide +kernel) (pa_cons (pv 2) pa_nil))))
    (pss_one (ps_ret (pe_disp (pps_cons pe_str (pe_revK (K := K) rfl (pv 3)) (pps_cons pe_str pe_int (pps_cons pe_str (pv 1) (pps_cons pe_str pe_int pps_nil)))) (by rfl) (by rfl) (fun z => by cases z) (by decide)))))))
      , ?_⟩
    walk_at "rd2"
    refine ⟨_, rfl, a, rfl, ⟨_, hs⟩, ?_⟩
    refine for_it (walk_list (K := K) (a := a) (xs := ns.map V.int)) (fun i σ' H' => ∃ (z : Option V) (m : Int), σ' = [some (.ref a), some (.int m), z, none] ∧ 0 ≤ m ∧ m < 2147483648 ∧ H' = H) ⟨_, 11, rfl, by decide, by decide, rfl⟩ (fun i σ' H' _ p => by obtain ⟨_, _, _, _, _, rfl⟩ := p; exact hs) (fun i x σ' H2 H2' hi p y => ?_) fun σ' H' p => ?_
    · obtain ⟨z, m, rfl, h0, h1, rfl⟩ := p
      obtain ⟨rfl, hx⟩ := y
      rw [List.getElem?_map] at hx
      obtain ⟨n, _, rfl⟩ := Option.map_eq_some_iff.mp hx
      walk_at "rd2"
      have hb1 : (0 : Int) ≤ (m * 69069 + n * 31 + 5) % 2147483629 := Int.emod_nonneg _ (by decide)
      have hb2 : (m * 69069 + n * 31 + 5) % 2147483629 < 2147483629 := Int.emod_lt_of_pos _ (by decide)
      exact ⟨.inr ⟨by decide, by decide⟩, .inr ⟨by decide, by decide⟩, .inl ⟨by decide, hb1, by omega⟩⟩
    · obtain ⟨z, m, rfl, h0, h1, rfl⟩ := p
      walk_at "rd2"
      refine ⟨_, rfl, a, rfl, ⟨_, hs⟩, fun D hD => ?_⟩
      refine lc_dat (T := T) (walk_list (K := K) (a := a) (xs := ns.map V.int)) (fun _ v (i : Int) => v = .int i) (fun i => (ns[i]?).map fun n => if n < 0 then -n else n) hD (fun H2 e => SqL.sm e hs) (by rw [List.length_map]; omega) (fun _ _ _ _ _ r => r) (fun i x H2 H3 hi e hDs y Qy Qn hy hnn => ?_) (fun H2 ys e hD' pr => ?_)
      · obtain ⟨rfl, hx⟩ := y
        rw [List.getElem?_map] at hx
        obtain ⟨n, hn, rfl⟩ := Option.map_eq_some_iff.mp hx
        walk_at "rd2"
        exact hy _ (if n < 0 then -n else n) H3 (by rw [hn]; rfl) (Sm.refl _ _) rfl
      · have intsV : ∀ {ys : List V} {l : List Int}, Paired (fun v (i : Int) => v = .int i) ys l → ys = l.map V.int := by
          intro ys l h
          induction h with
          | nil => rfl
          | cons r _ ih => rw [List.map_cons, ← ih, r]
        obtain rfl := intsV pr
        generalize (List.range (ns.map V.int).length).filterMap (fun i => (ns[i]?).map fun n => if n < 0 then -n else n) = ms at hD'
        unfold tDisp
        intro p hp
        have e3 : Sm T H2 (upd H2 p (.dK [])) := Sm.new hp
        have h3 : (upd H2 p (.dK [])) p = some (.dK []) := upd_same
        have fp : Fresh H' p := fresh_of e hp
        have pD : p ≠ D := fun z => by rw [z, hD'] at hp; cases hp
        generalize upd H2 p (.dK []) = H3 at e3 h3
        simp only [tPairs]
        walk_at "rd2"
        refine ⟨_, rfl, D, _, rfl, .inl (.inl (e3.lst hD')), fun p5 hp5 => ?_⟩
        have e5 : Sm T H3 (upd H3 p5 (.lst (ms.map V.int).reverse)) := Sm.new hp5
        have h5 : (upd H3 p5 (.lst (ms.map V.int).reverse)) p5 = some (.lst (ms.reverse.map V.int)) := by rw [upd_same, List.map_reverse]
        have f5 : Fresh H' p5 := fresh_of (e.trans e3) hp5
        have p5p : p5 ≠ p := fun z => by rw [z, h3] at hp5; cases hp5
        have h5p : (upd H3 p5 (.lst (ms.map V.int).reverse)) p = some (.dK []) := e5.dK h3
        generalize upd H3 p5 (.lst (ms.map V.int).reverse) = H5 at e5 h5 h5p
        refine ⟨h5p, srcK p5 1 m 0, rfl, (by show 4 ≤ 15; decide), ?_⟩
        have mu : Mu (H5 p) := by rw [h5p]; exact mu_dK
        have em : mergeK [] (srcK p5 1 m 0) = srcK p5 1 m 0 := by
          show [] ++ _ = _
          rfl
        rw [em]
        refine k p p5 _ (((e.trans e3).trans e5).mutF fp mu) fp f5 ⟨ms.reverse, 1, m, 0, upd_same, by rw [upd_ne p5p]; exact h5, h0, h1, by decide⟩
theorem src_get (c : Addr) (l m t : Int) : valV (srcK c l m t) (Sum.inr "cells") = some (.ref c) ∧ valV (srcK c l m t) (Sum.inr "left") = some (.int l) ∧ valV (srcK c l m t) (Sum.inr "mixed") = some (.int m) ∧ valV (srcK c l m t) (Sum.inr "turn") = some (.int t) :=
  ⟨valV_pos rfl, (valV_neg (fun z => absurd (Sum.inr.inj z) (by decide +kernel : ("cells" : Str) ≠ "left"))).trans (valV_pos rfl), (valV_neg (fun z => absurd (Sum.inr.inj z) (by decide +kernel : ("cells" : Str) ≠ "mixed"))).trans ((valV_neg (fun z => absurd (Sum.inr.inj z) (by decide +kernel : ("left" : Str) ≠ "mixed"))).trans (valV_pos rfl)), (valV_neg (fun z => absurd (Sum.inr.inj z) (by decide +kernel : ("cells" : Str) ≠ "turn"))).trans ((valV_neg (fun z => absurd (Sum.inr.inj z) (by decide +kernel : ("left" : Str) ≠ "turn"))).trans ((valV_neg (fun z => absurd (Sum.inr.inj z) (by decide +kernel : ("mixed" : Str) ≠ "turn"))).trans (valV_pos rfl)))⟩
section
variable {H : Hp} {d c : Addr} {l m t : Int}
theorem src_c (h : H d = some (.dK (srcK c l m t))) : DGet H d (.str "cells") (some (.ref c)) := (src_get c l m t).1 ▸ DGet.k (k := Sum.inr "cells") h
theorem src_l (h : H d = some (.dK (srcK c l m t))) : DGet H d (.str "left") (some (.int l)) := (src_get c l m t).2.1 ▸ DGet.k (k := Sum.inr "left") h
theorem src_m (h : H d = some (.dK (srcK c l m t))) : DGet H d (.str "mixed") (some (.int m)) := (src_get c l m t).2.2.1 ▸ DGet.k (k := Sum.inr "mixed") h
theorem src_t (h : H d = some (.dK (srcK c l m t))) : DGet H d (.str "turn") (some (.int t)) := (src_get c l m t).2.2.2 ▸ DGet.k (k := Sum.inr "turn") h
end
theorem src_putL (c : Addr) (l m t l' : Int) : putK (srcK c l m t) (Sum.inr "left") (.int l') = srcK c l' m t := rfl
theorem src_putT (c : Addr) (l m t t' : Int) : putK (srcK c l m t) (Sum.inr "turn") (.int t') = srcK c l m t' := rfl
abbrev N__law_pick : List Str := ["_law_source", "_law_most", "_law_cells", "_law_others", "_law_lap", "_law_stirred"]
theorem sc__law_pick : FnScope N__law_pick ["_law_source", "_law_most"] (defScope s__law_pick) := ⟨rfl, rfl, rfl, by decide +kernel, rfl, by decide +kernel, by decide +kernel⟩
theorem ok__law_pick (B : Bs mg) (hg : mg "_law_pick" = some (.ref f)) (F : FnP K "_law_pick" s__law_pick f fd) : Df P w K mg base "_law_pick" 1 ["_law_source", "_law_most"] (sp_pick T) := by
  refine df_mk hg F sc__law_pick (fun vs H Q E h => ?_) (fun _ _ _ _ _ _ us hl => match us, hl with | [_, _], _ => rfl) (fun cdv A outer s H vs Q E hr h => ?_)
  · obtain ⟨_, _, _, rfl, _⟩ := h
    rfl
  · obtain ⟨d, c, most, rfl, ⟨ns, left, mixed, turn, hd, hc, m0, m1, t0⟩, hm, k⟩ := h
    refine ⟨_,
      (pss_cons (ps_if (pt_cmpR op_lt (pv 1) pe_int (nomark _)) (pss_one (ps_ret pe_int))
    pss_nil)
    (pss_cons (ps_set (i := 2) sc__law_pick.nd rfl (by first | exact Or.inl rfl | exact Or.inr rfl) (pe_dget (hu_of hr) (pv 0) pe_str (fun _ _ => rfl)))
    (pss_cons (ps_while PassesOwn.never (PW.pt (pw_and (pt_cmpR op_lt (pe_dget (hu_of hr) (pv 0) pe_str (fun _ _ => rfl)) pe_int (nomark _)) (pw_and1 (pt_cmpR op_gt (pe_callB (lenK (K := K) rfl) (by rfl) B.len_ (by decide +kernel) (pa_cons (pv 2) pa_nil)) pe_int (nomark _)))))
    (pss_one (ps_dput (hu_of hr) (pv 0) pe_str (pe_bm0K (K := K) rfl PySem.F.plainAttrs_list PySem.F.slot_list_pop PySem.F.type_list_pop mt_pop (pv 2)) rfl)))
    (pss_cons (ps_set (i := 3) sc__law_pick.nd rfl (by first | exact Or.inl rfl | exact Or.inr rfl) (pe_dget (hu_of hr) (pv 0) pe_str (fun _ _ => rfl)))
    (pss_cons (ps_if (pt_cmpR op_gt (pv 3) pe_int (nomark _)) (pss_cons (ps_dput (hu_of hr) (pv 0) pe_str (pe_op op_fdivN (pv 3) (pv 1)) rfl)
    (pss_one (ps_ret (pe_op op_mod (pe_callTy (call_int1) (by rfl) B.int_ (by decide +kernel) (pa_cons (pv 3) pa_nil)) (pv 1)))))
    pss_nil)
    (pss_cons (ps_dput (hu_of hr) (pv 0) pe_str (pe_op op_add (pe_dget (hu_of hr) (pv 0) pe_str (fun _ _ => rfl)) pe_int) rfl)
    (pss_cons (ps_set (i := 4) sc__law_pick.nd rfl (by first | exact Or.inl rfl | exact Or.inr rfl) (pe_dget (hu_of hr) (pv 0) pe_str (fun _ _ => rfl)))
    (pss_cons (ps_set (i := 5) sc__law_pick.nd rfl (by first | exact Or.inl rfl | exact Or.inr rfl) (pe_op op_mod (pe_callTy (call_int1) (by rfl) B.int_ (by decide +kernel) (pa_cons (pe_op op_add (pe_dget (hu_of hr) (pv 0) pe_str (fun _ _ => rfl)) (pe_op op_mul (pv 4) pe_int)) pa_nil)) pe_int))
    (pss_cons (ps_set (i := 5) sc__law_pick.nd rfl (by first | exact Or.inl rfl | exact Or.inr rfl) (pe_op op_mod (pe_callTy (call_int1) (by rfl) B.int_ (by decide +kernel) (pa_cons (pe_op op_add (pe_op op_mul (pv 5) (pv 5)) (pe_op op_mul (pv 4) pe_int)) pa_nil)) pe_int))
    (pss_one (ps_ret (pe_op op_mod (pe_callTy (call_int1) (by rfl) B.int_ (by decide +kernel) (pa_cons (pe_op op_fdivN (pv 5) pe_int) pa_nil)) (pv 1)))))))))))))
      , ?_⟩
    walk_at "rd2"
    have ndc : d ≠ c := fun z => by rw [z, hc] at hd; cases hd
    refine ite2 (fun c1 => ?_) (fun c1 => ?_)
    · exact k 0 H Dr.refl ⟨ns, left, mixed, turn, hd, hc, m0, m1, t0⟩ (by omega)
    have hm2 : 2 ≤ most := by
      have : ¬ ((most : Int) < 2) := fun z => c1 (decide_eq_true z)
      omega
    refine ⟨d, rfl, _, src_c hd, ?_⟩
    refine ⟨fun n σ' H' => ∃ (z3 z4 z5 : Option V) (ns : List Int) (left : Int), σ' = [some (.ref d), some (.int (most : Int)), some (.ref c), z3, z4, z5] ∧ n = ns.length ∧ Dr T d c H H' ∧ H' d = some (.dK (srcK c left mixed turn)) ∧ H' c = some (.lst (ns.map V.int)), ⟨_, _, _, _, ns, left, rfl, rfl, Dr.refl, hd, hc⟩, ?_⟩
    rintro n σ' H' ⟨z3, z4, z5, ns, left, rfl, rfl, dr, hd, hc⟩
    have mud : Mu (H' d) := by rw [hd]; exact mu_dK
    have muc : Mu (H' c) := by rw [hc]; exact mu_lst
    walk_at "rd2"
    refine ⟨d, rfl, _, src_l hd, left, rfl, ?_⟩
    refine ite2 (fun c2 => len_l hc ⟨_, rfl, ite2 (fun c3 => ?pop) (fun c3 => ?t1)⟩) (fun c2 => ?t2)
    case pop =>
      have hl : 0 < ns.length := by
        have := of_decide_eq_true c3
        rw [List.length_map] at this
        omega
      refine ⟨_, fun _ _ h => h, tyl hc, ?_⟩
      have hlast : (ns.map V.int)[(ns.map V.int).length - 1]? = some (.int (ns.getLast (List.ne_nil_of_length_pos hl))) := by
        rw [List.length_map, List.getElem?_map, List.getLast_eq_getElem, List.getElem?_eq_getElem (by omega)]
        rfl
      refine ⟨c, _, _, rfl, rfl, hc, hlast, ?_⟩
      have dr2 : Dr T d c H' (upd H' c (.lst (ns.map V.int).dropLast)) := Dr.updc muc
      have hd2 : (upd H' c (.lst (ns.map V.int).dropLast)) d = some (.dK (srcK c left mixed turn)) := by rw [upd_ne ndc]; exact hd
      have hc2 : (upd H' c (.lst (ns.map V.int).dropLast)) c = some (.lst (ns.dropLast.map V.int)) := by rw [upd_same, List.map_dropLast]
      generalize upd H' c (.lst (ns.map V.int).dropLast) = H2 at dr2 hd2 hc2
      refine ⟨d, rfl, _, DPut.k (k := Sum.inr "left") hd2 (show 4 < sizeLine by decide), ns.length - 1, by omega, _, _, _, rfl, ns.dropLast, by rw [List.length_dropLast], (dr.trans dr2).trans (Dr.updd (by rw [hd2]; exact mu_dK)), _, upd_same, by rw [upd_ne (Ne.symm ndc)]; exact hc2⟩
    all_goals
      refine ⟨d, rfl, _, src_l hd, left, rfl, ?_⟩
      refine ite2 (fun c5 => ?_) (fun c5 => ?_)
      · refine ⟨left, rfl, ⟨by omega, by omega⟩, d, rfl, _, DPut.k (k := Sum.inr "left") hd (show 4 < sizeLine by decide), .inl ⟨left, rfl, by omega, ?_⟩⟩
        obtain ⟨n, hn⟩ : ∃ n : Nat, left % (most : Int) = (n : Int) := ⟨(left % (most : Int)).toNat, (Int.toNat_of_nonneg (Int.emod_nonneg _ (by omega))).symm⟩
        have hlt := Int.emod_lt_of_pos left (show (0 : Int) < most by omega)
        rw [hn] at hlt ⊢
        exact k n _ (dr.trans (Dr.updd mud)) ⟨ns, _, mixed, turn, upd_same, by rw [upd_ne (Ne.symm ndc)]; exact hc, m0, m1, t0⟩ (by omega)
      · refine ⟨d, rfl, _, src_t hd, turn, rfl, d, rfl, _, DPut.k (k := Sum.inr "turn") hd (show 4 < sizeLine by decide), ?_⟩
        have dr2 := dr.trans (Dr.updd (o := .dK (putK (srcK c left mixed turn) (Sum.inr "turn") (.int (turn + 1)))) mud)
        have hd2 : (upd H' d (.dK (putK (srcK c left mixed turn) (Sum.inr "turn") (.int (turn + 1))))) d = some (.dK (srcK c left mixed (turn + 1))) := upd_same
        have hc2 : (upd H' d (.dK (putK (srcK c left mixed turn) (Sum.inr "turn") (.int (turn + 1))))) c = some (.lst (ns.map V.int)) := by rw [upd_ne (Ne.symm ndc)]; exact hc
        generalize upd H' d (.dK (putK (srcK c left mixed turn) (Sum.inr "turn") (.int (turn + 1)))) = H2 at dr2 hd2 hc2
        refine ⟨d, rfl, _, src_t hd2, d, rfl, _, src_m hd2, _, rfl, .inr ⟨by decide, by decide⟩, _, rfl, .inl ⟨by decide, ?_⟩⟩
        have s0 : (0 : Int) ≤ (mixed + (turn + 1) * 104729) % 998244353 := Int.emod_nonneg _ (by decide)
        have s1 : (mixed + (turn + 1) * 104729) % 998244353 < 998244353 := Int.emod_lt_of_pos _ (by decide)
        generalize (mixed + (turn + 1) * 104729) % 998244353 = st at s0 s1
        refine ⟨.inl ⟨by omega, by omega⟩, _, rfl, .inr ⟨by decide, by decide⟩, .inl ⟨by decide, ?_⟩⟩
        generalize ((st * st + (turn + 1) * 17) % 2147483647).fdiv 16 = g
        obtain ⟨n, hn⟩ : ∃ n : Nat, g % (most : Int) = (n : Int) := ⟨(g % (most : Int)).toNat, (Int.toNat_of_nonneg (Int.emod_nonneg _ (by omega))).symm⟩
        have hlt := Int.emod_lt_of_pos g (show (0 : Int) < most by omega)
        refine ⟨⟨by decide, by decide⟩, .inl ⟨by omega, ?_⟩⟩
        rw [hn] at hlt ⊢
        exact k n _ dr2 ⟨ns, _, mixed, turn + 1, hd2, hc2, m0, m1, by omega⟩ (by omega)
end K67
end
/-! ## K67L5 -/
section
set_option maxHeartbeats 4000000
/-! K67L5: any order, a row drawn -/
namespace K67
open PySem PySem.Spec PyProof.Rows L2 LamX NdefX
local macro_rules | `(tactic| walk_at "sm") => `(tactic| first | assumption | exact Sm.refl _ _ | (refine Sm.trans ?_ (by assumption); walk_at "sm"))
local macro_rules | `(tactic| walk_at "ts") => `(tactic| first | assumption | exact TS.refl _ | (refine TS.trans ?_ (by assumption); walk_at "ts") | (refine TS.trans ?_ (Sm.ts (by assumption)); walk_at "ts"))
local macro_rules | `(tactic| walk_at "tp") => `(tactic| first | assumption | exact Tp.int _ | exact Tp.str _ | exact Tp.non | (refine Tp.ts (H := ?_) ?_ _ _ (by assumption); walk_at "ts"))
local macro_rules | `(tactic| walk_at "tps") => `(tactic| first | assumption | exact Tps.nil | (refine Tps.cons ?_ ?_; · walk_at "tp"; · walk_at "tps") | (refine Tps.ts (H := ?_) ?_ _ _ (by assumption); walk_at "ts"))
local macro_rules | `(tactic| walk_at "rd") => `(tactic| try simp only [rMax2, and_assoc, tYes, tSeq, tIfS, tRet, tNext, tTest, tB, tOp, tUn, tVar, tC, tTup, tLst, tCons, tNil, tIf, tCB, tCall, tBM, tBM0, tAsg, gName, gCons, gNil, gSub, tDrop, tPar, tPar3, tAug, tAnd, tOr, tNot, tAndV, tOrV, tNotV, tChain, tSl, tPart, tNoPart, rI0, rI, rU, rEq, rNe, L2.start, wipe, sz0, sz1, sz2, sz3, sz4, sz5, sz6, List.map_cons, List.map_nil, List.length_cons, List.length_nil, List.cons_append, List.nil_append, List.append_nil, List.getElem?_cons_zero, List.getElem?_cons_succ, List.set_cons_zero, List.set_cons_succ, List.replicate_zero, List.replicate_succ, Option.some.injEq, V.bl.injEq, V.int.injEq, V.str.injEq, List.cons.injEq, and_true, true_and, exists_eq_left', exists_eq_left, exists_eq', exists_eq, exists_and_left, Nat.reduceSub, Nat.reduceAdd, Nat.reduceLeDiff, decide_true, decide_false, if_true, if_false, Bool.false_eq_true, reduceIte])
local macro_rules | `(tactic| walk_at "rd2") => `(tactic| try simp only [tDGet, sDPut, tDNewK, tNNew, tNGet2, tNSetd, tNGet, sNPut, tTupF, tCKw, tDead, sDead, tDispN, tPairs, StX.tStar, rNeDN, rNeDN2, rMax2, and_assoc, tYes, tSeq, tIfS, tRet, tNext, tTest, tB, tOp, tUn, tVar, tC, tTup, tLst, tCons, tNil, tIf, tCB, tCall, tBM, tBM0, tAsg, gName, gCons, gNil, gSub, tDrop, tPar, tPar3, tAug, tAnd, tOr, tNot, tAndV, tOrV, tNotV, tChain, tSl, tPart, tNoPart, rI0, rI, rU, rEq, rNe, L2.start, wipe, sz0, sz1, sz2, sz3, sz4, sz5, sz6, List.map_cons, List.map_nil, List.length_cons, List.length_nil, List.cons_append, List.nil_append, List.append_nil, List.getElem?_cons_zero, List.getElem?_cons_succ, List.set_cons_zero, List.set_cons_succ, List.replicate_zero, List.replicate_succ, Option.some.injEq, V.bl.injEq, V.int.injEq, V.str.injEq, List.cons.injEq, and_true, true_and, exists_eq_left', exists_eq_left, exists_eq', exists_eq, exists_and_left, Nat.reduceSub, Nat.reduceAdd, Nat.reduceLeDiff, decide_true, decide_false, if_true, if_false, Bool.false_eq_true, reduceIte])

theorem Dr.mutF {T : List (Addr × Str)} {d c l : Addr} {H H' : Hp} {o : HO} (e : Dr T d c H H') (h : Fresh H l) (hm : Mu (H' l)) : Dr T d c H (upd H' l o) :=
  ⟨e.ts.trans (TS.mu hm), fun a u h1 h2 ha n => by
    have hal : a ≠ l := fun z => by
      obtain ⟨ps, hps⟩ := h u (z ▸ ha)
      exact n ps hps
    rw [upd_ne hal]
    exact e.keep a u h1 h2 ha n, fun t => tabs_upd hm (e.tabs t)⟩
theorem Src.upd {d c l : Addr} {H : Hp} {o : HO} (s : Src H d c) (h1 : l ≠ d) (h2 : l ≠ c) : Src (L2.upd H l o) d c := let ⟨ns, a, m, t, h3, h4, h5⟩ := s
  ⟨ns, a, m, t, by rw [upd_ne (Ne.symm h1)]; exact h3, by rw [upd_ne (Ne.symm h2)]; exact h4, h5⟩
theorem Src.ned {d c l : Addr} {H : Hp} (s : Src H d c) (h : H l = none) : l ≠ d ∧ l ≠ c := let ⟨ns, a, m, t, h3, h4, h5⟩ := s
  ⟨fun z => (by rw [z, h3] at h; cases h), fun z => (by rw [z, h4] at h; cases h)⟩
/-- a comprehension over range(n), any invariant -/
theorem lcRg {n : Nat} {ta : TA} {g : TG} {tt : TT} {te : TE} {vs : List Nat} {σ : L2.St} {H : Hp} {Q : VK} (Pv : Addr → Nat → Hp → Prop) (h : ∀ Q' : List V → Hp → Prop, Q' [.int (n : Int)] H → ta σ H Q') (hl : n ≤ 100000) (h0 : ∀ D, H D = none → Pv D 0 (upd H D (.lst [])))
    (hs : ∀ D i H', H D = none → i < n → Pv D i H' → g (.int (i : Int)) (wipe σ vs) H' fun σ2 H2 => wipe σ2 vs = wipe σ vs ∧ tt σ2 H2 fun b H3 => if b = true then te σ2 H3 fun y H4 => ∃ acc, H4 D = some (.lst acc) ∧ acc.length < sizeLine ∧ Pv D (i + 1) (upd H4 D (.lst (acc ++ [y]))) else Pv D (i + 1) H3)
    (hd : ∀ D H', H D = none → Pv D n H' → Q (.ref D) H') : tLc (iRng1 ta) g tt te vs σ H Q := by
  refine h _ ⟨n, rfl, by omega, by omega, fun D hD => ?_⟩
  rw [show ((n : Nat) : Int).toNat = n from Int.toNat_natCast n]
  refine lc_it (walk_range (lo := 0) (n := n)) (Pv D) (h0 D hD) (fun _ _ _ _ => trivial) (fun i x H1 H2 hi p y => ?_) (fun H' p => hd D H' hD p)
  obtain ⟨rfl, rfl⟩ := y
  have e0 : V.int ((0 : Int) + (i : Int)) = V.int (i : Int) := by rw [Int.zero_add]
  show g (V.int ((0 : Int) + (i : Int))) _ _ _
  rw [e0]
  exact hs D i H2 hD hi p
theorem erase_perm {α : Type} : ∀ {l : List α} {n : Nat} {e : α}, l[n]? = some e → (e :: l.eraseIdx n).Perm l
  | [], _, _, h => by simp at h
  | a :: l, 0, e, h => by
    obtain rfl : a = e := by simpa using h
    exact .refl _
  | a :: l, n + 1, e, h => by
    have := erase_perm (l := l) (n := n) (e := e) (by simpa using h)
    show (e :: a :: l.eraseIdx n).Perm (a :: l)
    exact (List.Perm.swap a e _).trans (this.cons a)
def AnyI (T : List (Addr × Str)) (d c l : Addr) (ds : List NestedKey) (H : Hp) (D : Addr) (i : Nat) (H' : Hp) : Prop := Dr T d c H H' ∧ Src H' d c ∧ ∃ zs fs ys es, H' l = some (.lst zs) ∧ Tps H' zs fs ∧ H' D = some (.lst ys) ∧ Tps H' ys es ∧ (es ++ fs).Perm ds ∧ es.length = i
section
variable (T : List (Addr × Str))
def sp_any (T : List (Addr × Str)) : Sp := fun vs H Q _ => ∃ (d c a : Addr) (ds : List NestedKey) (xs : List V), vs = [.ref d, .ref a] ∧ Src H d c ∧ H a = some (.lst xs) ∧ Tps H xs ds ∧ a ≠ c ∧ ds.length ≤ 50 ∧
  ∀ (b : Addr) (ys : List V) (es : List NestedKey) H', Dr T d c H H' → Src H' d c → Fresh H b → H' b = some (.lst ys) → Tps H' ys es → es.Perm ds → Q (.ref b) H'
end
variable {P : Program} {w : World} {K : PySem.W.Frag} {mg : Str → Option Value} {base : Heap} {T : List (Addr × Str)} {f : Addr} {fd : FuncData}
abbrev N__law_any_order : List Str := ["_law_source", "_law_things_here", "_law_others", "_law_lap"]
theorem sc__law_any_order : FnScope N__law_any_order ["_law_source", "_law_things_here"] (defScope s__law_any_order) := ⟨rfl, rfl, rfl, by decide +kernel, rfl, by decide +kernel, by decide +kernel⟩
theorem ok__law_any_order (B : Bs mg) (D__law_pick : Df P w K mg base "_law_pick" 1 ["_law_source", "_law_most"] (sp_pick T)) (hg : mg "_law_any_order" = some (.ref f)) (F : FnP K "_law_any_order" s__law_any_order f fd) : Df P w K mg base "_law_any_order" 2 ["_law_source", "_law_things_here"] (sp_any T) := by
  refine df_mk hg F sc__law_any_order (fun vs H Q E h => ?_) (fun _ _ _ _ _ _ us hl => match us, hl with | [_, _], _ => rfl) (fun cdv A outer s H vs Q E hr h => ?_)
  · obtain ⟨_, _, _, _, _, rfl, _⟩ := h
    rfl
  · obtain ⟨d, c, a, ds, xs, rfl, src, ha, tx, nac, hl, k⟩ := h
    refine ⟨_,
      (pss_cons (ps_set (i := 2) sc__law_any_order.nd rfl (by first | exact Or.inl rfl | exact Or.inr rfl) (pe_callTy (listOfK (K := K) rfl) (by rfl) B.list_ (by decide +kernel) (pa_cons (pv 1) pa_nil)))
    (pss_one (ps_ret (pe_lc (own := [("_law_lap", 3)]) (by rfl) sc__law_any_order.nd (pi_range1 (by rfl) B.range_ (pa_cons (pe_callB (lenK (K := K) rfl) (by rfl) B.len_ (by decide +kernel) (pa_cons (pv 2) pa_nil)) pa_nil)) (blkOk_by (N := N__law_any_order) (sc := defScope s__law_any_order) (by decide +kernel)) (fun _ _ _ _ _ => (pg_name (i := 3) sc__law_any_order.nd rfl (by first | exact Or.inl rfl | exact Or.inr rfl))) (fun _ _ _ _ _ => pts_nil) (fun _ _ _ _ _ => (pe_bmK (K := K) rfl PySem.F.plainAttrs_list PySem.F.slot_list_pop PySem.F.type_list_pop mt_popAt (pv 2) (pa_cons (pe_df D__law_pick hr (pa_cons (pv 0) (pa_cons (pe_callB (lenK (K := K) rfl) (by rfl) B.len_ (by decide +kernel) (pa_cons (pv 2) pa_nil)) pa_nil))) pa_nil)))))))
      , ?_⟩
    walk_at "rd2"
    refine ⟨a, xs, rfl, .inl (.inl (.inl ha)), fun l hl0 => ?_⟩
    have e1 : Sm T H (upd H l (.lst xs)) := Sm.new hl0
    have h1 : (upd H l (.lst xs)) l = some (.lst xs) := upd_same
    have tx1 := Tps.ts e1.ts _ _ tx
    obtain ⟨nld, nlc⟩ := src.ned hl0
    have src1 := src.sm e1
    have fl : Fresh H l := fun o ho => by rw [hl0] at ho; cases ho
    generalize upd H l (.lst xs) = H1 at e1 h1 tx1 src1
    have hn : xs.length = ds.length := tx.length
    refine lcRg (n := ds.length) (AnyI T d c l ds H) (fun Q' k' => ?_) (by omega) (fun D hD => ?_) (fun D i H' hD hi pv => ?_) (fun D H' hD pv => ?_)
    · walk_at "rd2"
      refine len_l h1 ?_
      rw [hn]
      exact k'
    · have e2 : Sm T H1 (upd H1 D (.lst [])) := Sm.new hD
      exact ⟨Dr.of (e1.trans e2), src1.sm e2, xs, ds, [], [], e2.lst h1, Tps.ts e2.ts _ _ tx1, upd_same, .nil, .refl _, rfl⟩
    · obtain ⟨dr, src', zs, fs, ys, es, hl', tz, hD', ty, pm, hes⟩ := pv
      obtain ⟨nDd, nDc⟩ := src1.ned hD
      have nlD : l ≠ D := fun z => by rw [← z, h1] at hD; cases hD
      have hfl : fs.length + i = ds.length := by
        have := pm.length_eq
        rw [List.length_append] at this
        omega
      walk_at "rd2"
      refine ⟨tyl hl', ?_⟩
      refine len_l hl' ?_
      refine ⟨d, c, zs.length, rfl, src', by rw [tz.length]; omega, fun n H2 dr2 src2 hlt => ?_⟩
      have hzl : zs.length = fs.length := tz.length
      have hlt : n < zs.length := by omega
      have hl2 := dr2.lst nld nlc hl'
      have hD2 := dr2.lst nDd nDc hD'
      have tz2 := Tps.ts dr2.ts _ _ tz
      have ty2 := Tps.ts dr2.ts _ _ ty
      obtain ⟨y, hy⟩ : ∃ y, zs[n]? = some y := ⟨_, List.getElem?_eq_getElem hlt⟩
      obtain ⟨e, he, te⟩ := tz2.at_ hy
      refine ⟨l, zs, (n : Int), n, y, rfl, rfl, hl2, by omega, by omega, seqIndex_of (by omega) (by omega), hy, ?_⟩
      have mul : Mu (H2 l) := by rw [hl2]; exact mu_lst
      have ts3 : TS H2 (upd H2 l (.lst (zs.eraseIdx n))) := TS.mu mul
      have dr3 := (dr.trans dr2).mutF fl mul (o := .lst (zs.eraseIdx n))
      have src3 := src2.upd (o := .lst (zs.eraseIdx n)) nld nlc
      have hl3 : (upd H2 l (.lst (zs.eraseIdx n))) l = some (.lst (zs.eraseIdx n)) := upd_same
      have hD3 : (upd H2 l (.lst (zs.eraseIdx n))) D = some (.lst ys) := by rw [upd_ne (Ne.symm nlD)]; exact hD2
      have tz3 := Tps.ts ts3 _ _ tz2
      have ty3 := Tps.ts ts3 _ _ ty2
      have te3 := Tp.ts ts3 _ _ te
      generalize upd H2 l (.lst (zs.eraseIdx n)) = H3 at dr3 src3 hl3 hD3 tz3 ty3 te3
      have muD : Mu (H3 D) := by rw [hD3]; exact mu_lst
      have ts4 : TS H3 (upd H3 D (.lst (ys ++ [y]))) := TS.mu muD
      refine ⟨ys, hD3, sz_lt' (by rw [ty3.length]; omega), dr3.mutF (fresh_of e1 hD) muD, src3.upd nDd nDc, zs.eraseIdx n, fs.eraseIdx n, _, es ++ [e], by rw [upd_ne nlD]; exact hl3, ?_, upd_same, (Tps.ts ts4 _ _ ty3).append (.cons (Tp.ts ts4 _ _ te3) .nil), ?_, by rw [List.length_append, hes]; rfl⟩
      · exact ((Tps.ts ts4 _ _ tz3).eraseIdx n)
      · refine List.Perm.trans ?_ pm
        rw [List.append_assoc]
        refine List.Perm.append_left es ?_
        exact erase_perm he
    · obtain ⟨dr, src', zs, fs, ys, es, hl', tz, hD', ty, pm, hes⟩ := pv
      have hf : fs = [] := by
        have := pm.length_eq
        rw [List.length_append] at this
        exact List.length_eq_zero_iff.mp (by omega)
      subst hf
      rw [List.append_nil] at pm
      exact k D ys es H' dr src' (fresh_of e1 hD) hD' ty pm
end K67
end
/-! ## K67L6 -/
section
set_option maxHeartbeats 4000000
/-! K67L6: a row drawn -/
namespace K67
open PySem PySem.Spec PyProof.Rows L2 LamX NdefX
local macro_rules | `(tactic| walk_at "sm") => `(tactic| first | assumption | exact Sm.refl _ _ | (refine Sm.trans ?_ (by assumption); walk_at "sm"))
local macro_rules | `(tactic| walk_at "ts") => `(tactic| first | assumption | exact TS.refl _ | (refine TS.trans ?_ (by assumption); walk_at "ts") | (refine TS.trans ?_ (Sm.ts (by assumption)); walk_at "ts"))
local macro_rules | `(tactic| walk_at "tp") => `(tactic| first | assumption | exact Tp.int _ | exact Tp.str _ | exact Tp.non | (refine Tp.ts (H := ?_) ?_ _ _ (by assumption); walk_at "ts"))
local macro_rules | `(tactic| walk_at "tps") => `(tactic| first | assumption | exact Tps.nil | (refine Tps.cons ?_ ?_; · walk_at "tp"; · walk_at "tps") | (refine Tps.ts (H := ?_) ?_ _ _ (by assumption); walk_at "ts"))
local macro_rules | `(tactic| walk_at "rd") => `(tactic| try simp only [rMax2, and_assoc, tYes, tSeq, tIfS, tRet, tNext, tTest, tB, tOp, tUn, tVar, tC, tTup, tLst, tCons, tNil, tIf, tCB, tCall, tBM, tBM0, tAsg, gName, gCons, gNil, gSub, tDrop, tPar, tPar3, tAug, tAnd, tOr, tNot, tAndV, tOrV, tNotV, tChain, tSl, tPart, tNoPart, rI0, rI, rU, rEq, rNe, L2.start, wipe, sz0, sz1, sz2, sz3, sz4, sz5, sz6, List.map_cons, List.map_nil, List.length_cons, List.length_nil, List.cons_append, List.nil_append, List.append_nil, List.getElem?_cons_zero, List.getElem?_cons_succ, List.set_cons_zero, List.set_cons_succ, List.replicate_zero, List.replicate_succ, Option.some.injEq, V.bl.injEq, V.int.injEq, V.str.injEq, List.cons.injEq, and_true, true_and, exists_eq_left', exists_eq_left, exists_eq', exists_eq, exists_and_left, Nat.reduceSub, Nat.reduceAdd, Nat.reduceLeDiff, decide_true, decide_false, if_true, if_false, Bool.false_eq_true, reduceIte])
local macro_rules | `(tactic| walk_at "rd2") => `(tactic| try simp only [tDGet, sDPut, tDNewK, tNNew, tNGet2, tNSetd, tNGet, sNPut, tTupF, tCKw, tDead, sDead, tDispN, tPairs, StX.tStar, rNeDN, rNeDN2, rMax2, and_assoc, tYes, tSeq, tIfS, tRet, tNext, tTest, tB, tOp, tUn, tVar, tC, tTup, tLst, tCons, tNil, tIf, tCB, tCall, tBM, tBM0, tAsg, gName, gCons, gNil, gSub, tDrop, tPar, tPar3, tAug, tAnd, tOr, tNot, tAndV, tOrV, tNotV, tChain, tSl, tPart, tNoPart, rI0, rI, rU, rEq, rNe, L2.start, wipe, sz0, sz1, sz2, sz3, sz4, sz5, sz6, List.map_cons, List.map_nil, List.length_cons, List.length_nil, List.cons_append, List.nil_append, List.append_nil, List.getElem?_cons_zero, List.getElem?_cons_succ, List.set_cons_zero, List.set_cons_succ, List.replicate_zero, List.replicate_succ, Option.some.injEq, V.bl.injEq, V.int.injEq, V.str.injEq, List.cons.injEq, and_true, true_and, exists_eq_left', exists_eq_left, exists_eq', exists_eq, exists_and_left, Nat.reduceSub, Nat.reduceAdd, Nat.reduceLeDiff, decide_true, decide_false, if_true, if_false, Bool.false_eq_true, reduceIte])

/-- a value of a column's kind -/
def valOf (kind : Str) (d : NestedKey) : Prop := if kind = "text" then d ∈ [NestedKey.none, .text "a", .text "b", .text ""] else d ∈ [NestedKey.none, .num 1, .num 0, .num (-3), .num 1000000000000]
def rowOf (cs : List Col) (low : Int) (r : Row) : Prop := low ≤ r.t ∧ r.t < low + 10 ∧ (r.s = 1 ∨ r.s = -1) ∧ Paired (fun d (c : Col) => valOf c.2 d) r.vs cs
def DrawI (T : List (Addr × Str)) (d c p : Addr) (cs : List Col) (H : Hp) (i : Nat) (H' : Hp) : Prop := Dr T d c H H' ∧ Src H' d c ∧ ∃ xs vals, H' p = some (.lst xs) ∧ Tps H' xs vals ∧ Paired (fun d (c : Col) => valOf c.2 d) vals (cs.take i)
section
variable (T : List (Addr × Str))
def sp_draw_row : Sp := fun vs H Q _ => ∃ (d c : Addr) (vc : V) (cs : List Col) (low : Int), vs = [.ref d, vc, .int low] ∧ Src H d c ∧ Tp H vc (colsK cs) ∧ cs.length ≤ 10 ∧ ∀ v r H', Dr T d c H H' → Src H' d c → Tp H' v (Row.k r) → rowOf cs low r → Q v H'
end
variable {P : Program} {w : World} {K : PySem.W.Frag} {mg : Str → Option Value} {base : Heap} {T : List (Addr × Str)} {f : Addr} {fd : FuncData}
abbrev N__law_draw_row : List Str := ["_law_source", "_law_columns", "_law_low", "_law_values", "_law_name", "_law_kind", "_law_some"]
theorem sc__law_draw_row : FnScope N__law_draw_row ["_law_source", "_law_columns", "_law_low"] (defScope s__law_draw_row) := ⟨rfl, rfl, rfl, by decide +kernel, rfl, by decide +kernel, by decide +kernel⟩
theorem ok__law_draw_row (B : Bs mg) (D__law_pick : Df P w K mg base "_law_pick" 1 ["_law_source", "_law_most"] (sp_pick T)) (hg : mg "_law_draw_row" = some (.ref f)) (F : FnP K "_law_draw_row" s__law_draw_row f fd) : Df P w K mg base "_law_draw_row" 2 ["_law_source", "_law_columns", "_law_low"] (sp_draw_row T) := by
  refine df_mk hg F sc__law_draw_row (fun vs H Q E h => ?_) (fun _ _ _ _ _ _ us hl => match us, hl with | [_, _, _], _ => rfl) (fun cdv A outer s H vs Q E hr h => ?_)
  · obtain ⟨_, _, _, _, _, rfl, _⟩ := h
    rfl
  · obtain ⟨d, c, vc, cs, low, rfl, src, hc, hl, k⟩ := h
    refine ⟨_,
      (pss_cons (ps_set (i := 3) sc__law_draw_row.nd rfl (by first | exact Or.inl rfl | exact Or.inr rfl) (pe_lst pa_nil))
    (pss_cons (ps_for PassesOwn.never rfl (pi_tupK (K := K) rfl (pv 1)) (pg_tupK (n := 2) (K := K) rfl rfl (pgs_cons (pg_name (i := 4) sc__law_draw_row.nd rfl (by first | exact Or.inl rfl | exact Or.inr rfl)) (pgs_cons (pg_name (i := 5) sc__law_draw_row.nd rfl (by first | exact Or.inl rfl | exact Or.inr rfl)) pgs_nil)))
    (pss_cons (ps_set (i := 6) sc__law_draw_row.nd rfl (by first | exact Or.inl rfl | exact Or.inr rfl) (pe_ifExp (pt_cmpR op_eq (pv 5) pe_str (nomark _)) (pe_lst (pa_cons pe_non (pa_cons pe_str (pa_cons pe_str (pa_cons pe_str (pa_cons pe_str pa_nil)))))) (pe_lst (pa_cons pe_non (pa_cons pe_int (pa_cons pe_int (pa_cons (pe_op op_sub pe_int pe_int) (pa_cons (pe_op op_pow pe_int pe_int) pa_nil))))))))
    (pss_one (ps_expr (pe_bmK (K := K) rfl PySem.F.plainAttrs_list PySem.F.slot_list_append PySem.F.type_list_append mt_append (pv 3) (pa_cons (pe_ix (ix_listK (K := K) rfl) (pv 6) (pe_df D__law_pick hr (pa_cons (pv 0) (pa_cons pe_int pa_nil))) (fun _ _ => rfl)) pa_nil))))))
    (pss_one (ps_ret (pe_tup (pa_cons (pe_op op_add (pv 2) (pe_df D__law_pick hr (pa_cons (pv 0) (pa_cons pe_int pa_nil)))) (pa_cons (pe_ix (ix_listK (K := K) rfl) (pe_lst (pa_cons pe_int (pa_cons pe_int (pa_cons (pe_op op_sub pe_int pe_int) pa_nil)))) (pe_df D__law_pick hr (pa_cons (pv 0) (pa_cons pe_int pa_nil))) (fun _ _ => rfl)) (pa_cons (pe_callTy (tupOfK (K := K) rfl) (by rfl) B.tuple_ (by decide +kernel) (pa_cons (pv 3) pa_nil)) pa_nil))))))))
      , ?_⟩
    walk_at "rd2"
    intro p hp
    have e0 : Sm T H (upd H p (.lst [])) := Sm.new hp
    have h0 : (upd H p (.lst [])) p = some (.lst []) := upd_same
    have fp : Fresh H p := fun o ho => by rw [hp] at ho; cases ho
    obtain ⟨npd, npc⟩ := src.ned hp
    have src0 := src.sm e0
    have hc0 := Tp.ts e0.ts _ _ hc
    generalize upd H p (.lst []) = H0 at e0 h0 src0 hc0
    refine forT (T := T) cs colK (fun Q' k' => ?_) (fun i σ' H' => (∃ z4 z5 z6, σ' = [some (.ref d), some vc, some (.int low), some (.ref p), z4, z5, z6]) ∧ DrawI T d c p cs H i H') (fun H' e => ⟨⟨_, _, _, rfl⟩, Dr.of (e0.trans e), src0.sm e, [], [], e.lst h0, .nil, .nil⟩) (fun i x q σ' H' N hi tsx tx pv hN => ?_) fun σ' H' tsx pv => ?_
    · walk_at "rd2"
      exact k' vc H0 (Sm.refl _ _) hc0
    · obtain ⟨⟨z4, z5, z6, rfl⟩, dr, src', xs, vals, hxs, txs, prv⟩ := pv
      have hil : i < cs.length := (List.getElem?_eq_some_iff.mp hi).1
      obtain ⟨nm, kd⟩ := q
      refine gT2 tx fun v1 v2 t1 t2 => ?_
      obtain rfl := t1.text_inv
      obtain rfl := t2.text_inv
      walk_at "rd2"
      have turn : ∀ (so : List V) (os : List NestedKey), (∀ H, Tps H so os) → so.length = 5 → (∀ o ∈ os, valOf kd o) → ∀ b, H' b = none → tyV K "list" (.ref p) (upd H' b (.lst so)) ∧ sp_pick T [.ref d, .int 5] (upd H' b (.lst so)) (fun y H2 => rIxL K (.ref b) y H2 fun x H1 => rAppend (.ref p) [x] H1 fun x H1 => N [some (V.ref d), some vc, some (V.int low), some (V.ref p), some (V.str nm), some (V.str kd), some (.ref b)] H1) E0 := fun so os tso lso hos b hb => by
        have e2 : Sm T H' (upd H' b (.lst so)) := Sm.new hb
        have h2 : (upd H' b (.lst so)) b = some (.lst so) := upd_same
        obtain ⟨nbd, nbc⟩ := src'.ned hb
        generalize upd H' b (.lst so) = H2 at e2 h2
        refine ⟨tyl (e2.lst hxs), d, c, 5, rfl, src'.sm e2, by decide, fun n H3 dr3 src3 hn => ?_⟩
        have hn5 : n < so.length := by omega
        have h3 := dr3.lst nbd nbc h2
        obtain ⟨y, hy⟩ : ∃ y, so[n]? = some y := ⟨_, List.getElem?_eq_getElem hn5⟩
        obtain ⟨o, ho, to⟩ := (tso H3).at_ hy
        refine ⟨b, so, (n : Int), y, rfl, rfl, .inl (.inl h3), atI_nat hy, ?_⟩
        have hx3 := dr3.lst npd npc (e2.lst hxs)
        have lx : xs.length ≤ 10 := by
          rw [txs.length, Paired.length prv, List.length_take]
          omega
        refine ⟨p, xs, y, rfl, rfl, hx3, sz_lt' (by omega), ?_⟩
        have mu : Mu (H3 p) := by rw [hx3]; exact mu_lst
        have ts4 : TS H3 (upd H3 p (.lst (xs ++ [y]))) := TS.mu mu
        refine hN _ _ (e2.ts.trans (dr3.ts.trans ts4)) ⟨⟨_, _, _, rfl⟩, (((dr.trans (Dr.of e2)).trans dr3).mutF fp mu), src3.upd npd npc, xs ++ [y], vals ++ [o], upd_same, (Tps.ts (e2.ts.trans (dr3.ts.trans ts4)) _ _ txs).append (.cons (Tp.ts ts4 _ _ to) .nil), ?_⟩
        rw [List.take_add_one, hi]
        exact Paired.snoc prv (hos o (List.mem_of_getElem? ho))
      refine ⟨rfl, ite2 (fun c1 => ?_) (fun c1 => ?_)⟩
      · have ck : kd = "text" := of_decide_eq_true c1
        exact turn _ [.none, .text "a", .text "b", .text "", .text "a"] (fun _ => .cons .non (.cons (.str _) (.cons (.str _) (.cons (.str _) (.cons (.str _) .nil))))) rfl fun o ho => by
          unfold valOf
          rw [if_pos ck]
          simp only [List.mem_cons, List.not_mem_nil, or_false] at ho ⊢
          rcases ho with h | h | h | h | h <;> simp [h]
      · have ck : ¬ kd = "text" := fun z => c1 (decide_eq_true z)
        refine ⟨⟨by decide, by decide, by decide⟩, ?_⟩
        exact turn _ [.none, .num 1, .num 0, .num (0 - 3), .num (10 ^ Int.toNat 12)] (fun _ => .cons .non (.cons (.int _) (.cons (.int _) (.cons (.int _) (.cons (.int _) .nil))))) rfl fun o ho => by
          unfold valOf
          rw [if_neg ck]
          have e : (10 : Int) ^ Int.toNat 12 = 1000000000000 := by decide
          rw [e] at ho
          simp only [List.mem_cons, List.not_mem_nil, or_false] at ho ⊢
          rcases ho with h | h | h | h | h <;> simp [h]
    · obtain ⟨⟨z4, z5, z6, rfl⟩, dr, src', xs, vals, hxs, txs, prv⟩ := pv
      rw [List.take_length] at prv
      walk_at "rd2"
      refine ⟨d, c, 10, rfl, src', by decide, fun n1 H1 dr1 src1 hn1 => ⟨_, rfl, fun b hb => ?_⟩⟩
      have e2 : Sm T H1 (upd H1 b (.lst [V.int 1, V.int 1, V.int (0 - 1)])) := Sm.new hb
      have h2 : (upd H1 b (.lst [V.int 1, V.int 1, V.int (0 - 1)])) b = some (.lst [V.int 1, V.int 1, V.int (0 - 1)]) := upd_same
      obtain ⟨nbd, nbc⟩ := src1.ned hb
      have hx2 := e2.lst (dr1.lst npd npc hxs)
      have tx2 := Tps.ts (dr1.ts.trans e2.ts) _ _ txs
      generalize upd H1 b (.lst [V.int 1, V.int 1, V.int (0 - 1)]) = H2 at e2 h2 hx2 tx2
      refine ⟨d, c, 3, rfl, src1.sm e2, by decide, fun n2 H3 dr3 src3 hn2 => ?_⟩
      have hn3 : n2 < 3 := by omega
      have h3 := dr3.lst nbd nbc h2
      obtain ⟨sg, hsg, hs1⟩ : ∃ sg : Int, ([V.int 1, V.int 1, V.int (0 - 1)] : List V)[n2]? = some (.int sg) ∧ (sg = 1 ∨ sg = -1) := by
        match n2, hn3 with
        | 0, _ => exact ⟨1, rfl, .inl rfl⟩
        | 1, _ => exact ⟨1, rfl, .inl rfl⟩
        | 2, _ => exact ⟨0 - 1, rfl, .inr rfl⟩
      refine ⟨b, _, (n2 : Int), .int sg, rfl, rfl, .inl (.inl h3), atI_nat hsg, ?_⟩
      have hx3 := dr3.lst npd npc hx2
      have tx3 := Tps.ts dr3.ts _ _ tx2
      refine tuple_d (T := T) hx3 tx3 fun v5 H5 e5 t5 => ?_
      refine tup_d (T := T) (Tps.cons (.int (low + (n1 : Int))) (.cons (.int sg) (.cons t5 .nil))) fun v6 H6 e6 t6 => ?_
      have e56 := e5.trans e6
      exact k v6 ⟨low + n1, sg, vals⟩ H6 ((((dr.trans dr1).trans (Dr.of e2)).trans dr3).trans (Dr.of e56)) (src3.sm e56) t6 ⟨by show low ≤ low + (n1 : Int); omega, by show low + (n1 : Int) < low + 10; omega, hs1, prv⟩
end K67
end
/-! ## K67L7 -/
section
set_option maxHeartbeats 4000000
/-! K67L7: the entries of a part -/
namespace K67
open PySem PySem.Spec PyProof.Rows L2 LamX NdefX
local macro_rules | `(tactic| walk_at "sm") => `(tactic| first | assumption | exact Sm.refl _ _ | (refine Sm.trans ?_ (by assumption); walk_at "sm"))
local macro_rules | `(tactic| walk_at "ts") => `(tactic| first | assumption | exact TS.refl _ | (refine TS.trans ?_ (by assumption); walk_at "ts") | (refine TS.trans ?_ (Sm.ts (by assumption)); walk_at "ts"))
local macro_rules | `(tactic| walk_at "tp") => `(tactic| first | assumption | exact Tp.int _ | exact Tp.str _ | exact Tp.non | (refine Tp.ts (H := ?_) ?_ _ _ (by assumption); walk_at "ts"))
local macro_rules | `(tactic| walk_at "tps") => `(tactic| first | assumption | exact Tps.nil | (refine Tps.cons ?_ ?_; · walk_at "tp"; · walk_at "tps") | (refine Tps.ts (H := ?_) ?_ _ _ (by assumption); walk_at "ts"))
local macro_rules | `(tactic| walk_at "rd") => `(tactic| try simp only [rMax2, and_assoc, tYes, tSeq, tIfS, tRet, tNext, tTest, tB, tOp, tUn, tVar, tC, tTup, tLst, tCons, tNil, tIf, tCB, tCall, tBM, tBM0, tAsg, gName, gCons, gNil, gSub, tDrop, tPar, tPar3, tAug, tAnd, tOr, tNot, tAndV, tOrV, tNotV, tChain, tSl, tPart, tNoPart, rI0, rI, rU, rEq, rNe, L2.start, wipe, sz0, sz1, sz2, sz3, sz4, sz5, sz6, List.map_cons, List.map_nil, List.length_cons, List.length_nil, List.cons_append, List.nil_append, List.append_nil, List.getElem?_cons_zero, List.getElem?_cons_succ, List.set_cons_zero, List.set_cons_succ, List.replicate_zero, List.replicate_succ, Option.some.injEq, V.bl.injEq, V.int.injEq, V.str.injEq, List.cons.injEq, and_true, true_and, exists_eq_left', exists_eq_left, exists_eq', exists_eq, exists_and_left, Nat.reduceSub, Nat.reduceAdd, Nat.reduceLeDiff, decide_true, decide_false, if_true, if_false, Bool.false_eq_true, reduceIte])
local macro_rules | `(tactic| walk_at "rd2") => `(tactic| try simp only [tDGet, sDPut, tDNewK, tNNew, tNGet2, tNSetd, tNGet, sNPut, tTupF, tCKw, tDead, sDead, tDispN, tPairs, StX.tStar, rNeDN, rNeDN2, rMax2, and_assoc, tYes, tSeq, tIfS, tRet, tNext, tTest, tB, tOp, tUn, tVar, tC, tTup, tLst, tCons, tNil, tIf, tCB, tCall, tBM, tBM0, tAsg, gName, gCons, gNil, gSub, tDrop, tPar, tPar3, tAug, tAnd, tOr, tNot, tAndV, tOrV, tNotV, tChain, tSl, tPart, tNoPart, rI0, rI, rU, rEq, rNe, L2.start, wipe, sz0, sz1, sz2, sz3, sz4, sz5, sz6, List.map_cons, List.map_nil, List.length_cons, List.length_nil, List.cons_append, List.nil_append, List.append_nil, List.getElem?_cons_zero, List.getElem?_cons_succ, List.set_cons_zero, List.set_cons_succ, List.replicate_zero, List.replicate_succ, Option.some.injEq, V.bl.injEq, V.int.injEq, V.str.injEq, List.cons.injEq, and_true, true_and, exists_eq_left', exists_eq_left, exists_eq', exists_eq, exists_and_left, Nat.reduceSub, Nat.reduceAdd, Nat.reduceLeDiff, decide_true, decide_false, if_true, if_false, Bool.false_eq_true, reduceIte])

/-- over enumerate of the list at a, which stays as it is; the pair is new -/
theorem forE {T : List (Addr × Str)} {K : PySem.W.Frag} {α : Type} {ta : TA} {g : TG} {tb : L2.TS} {D : Ends} {σ : L2.St} {H : Hp} {a : Addr} {xs : List V} (IR : Hp → V → α → Prop) (as : List α) (h : ∀ Q' : List V → Hp → Prop, Q' [.ref a] H → ta σ H Q') (ha : H a = some (.lst xs)) (pr : Paired (IR H) xs as) (Pv : Nat → L2.St → Hp → Prop) (h0 : Pv 0 σ H)
    (hG : ∀ i σ' H', TS H H' → Pv i σ' H' → H' a = some (.lst xs)) (hIR : ∀ H' v b, TS H H' → IR H v b → IR H' v b)
    (hs : ∀ (i : Nat) p x b σ' H' N, as[i]? = some b → TS H H' → H' p = none → IR H' x b → Pv i σ' H' → (∀ σ3 H3, TS (upd H' p (.tup [.int (i : Int), x])) H3 → Pv (i + 1) σ3 H3 → N σ3 H3) → g (.ref p) σ' (upd H' p (.tup [.int (i : Int), x])) fun σ2 H2 => tb { D with nx := N, ct := N, bk := D.nx } σ2 H2)
    (hd : ∀ σ' H', TS H H' → Pv as.length σ' H' → D.nx σ' H') : tFor (iEnum K ta) g tb D σ H := by
  have hn : xs.length = as.length := Paired.length pr
  refine h _ ⟨a, xs, rfl, .inl (.inl ha), ?_⟩
  refine for_it (walk_enum (K := K) (a := a) (xs := xs)) (fun i σ' H' => TS H H' ∧ Pv i σ' H') ⟨TS.refl _, h0⟩ (fun i σ' H' _ p => .inl (.inl (hG i σ' H' p.1 p.2))) (fun i x σ' H2 H2' hi p y => ?_) fun σ' H' p => hd σ' H' p.1 (by rw [← hn]; exact p.2)
  obtain ⟨q, x1, x2, rfl, hp, rfl, z1, z2⟩ := y
  obtain rfl : V.int (i : Int) = x1 := Option.some.inj z1
  obtain ⟨b, hb, td⟩ := Paired.at_ pr z2
  have e3 : TS H2 (upd H2 q (.tup [.int (i : Int), x2])) := (Sm.new (T := T) hp).ts
  exact hs i q x2 b σ' H2 _ hb p.1 hp (hIR _ _ _ p.1 td) p.2 fun σ3 H3 t3 z => ⟨(p.1.trans e3).trans t3, z⟩
/-- the rows of a part; its last mark -/
def rowsOf (es : List En) : List Row := es.filterMap fun
  | .row r => some r
  | .mark _ => none
def mx (es : List En) : Int := es.foldl (fun m e => match e with
  | .mark k => max m k
  | .row _ => m) 0
theorem lateGo_app : ∀ (es fs : List En) (m : Int), lateGo m (es ++ fs) ↔ lateGo m es ∧ lateGo (es.foldl (fun m e => match e with
  | .mark k => max m k
  | .row _ => m) m) fs
  | [], fs, m => by simp [lateGo]
  | .mark k :: es, fs, m => lateGo_app es fs (max m k)
  | .row r :: es, fs, m => by
    show (m ≤ r.t ∧ lateGo m (es ++ fs)) ↔ (m ≤ r.t ∧ lateGo m es) ∧ _
    rw [lateGo_app es fs m, and_assoc]
    rfl
theorem perm_back {α β : Type} {f : α → β} {g : β → α} (h : ∀ a, g (f a) = a) {es : List β} {l : List α} (p : es.Perm (l.map f)) : ∃ o : List α, es = o.map f ∧ o.Perm l := by
  refine ⟨es.map g, ?_, ?_⟩
  · rw [List.map_map]
    conv => lhs; rw [← List.map_id es]
    refine List.map_congr_left fun b hb => ?_
    obtain ⟨a, _, rfl⟩ := List.mem_map.mp (p.mem_iff.mp hb)
    show f a = f (g (f a))
    rw [h]
  · have := p.map g
    rw [List.map_map] at this
    refine this.trans ?_
    rw [show (l.map (g ∘ f)) = l from by
      conv => rhs; rw [← List.map_id l]
      exact List.map_congr_left fun a _ => h a]
def unk : NestedKey → Row
  | .tup [.num t, .num s, .tup vs] => ⟨t, s, vs⟩
  | _ => ⟨0, 0, []⟩
theorem unk_k (r : Row) : unk r.k = r := rfl
theorem Src.nedF {d c l : Addr} {H : Hp} (s : Src H d c) (h : Fresh H l) : l ≠ d ∧ l ≠ c := let ⟨ns, a, m, t, h3, h4, h5⟩ := s
  ⟨fun z => (by obtain ⟨ps, hps⟩ := h _ (z ▸ h3); cases hps), fun z => (by obtain ⟨ps, hps⟩ := h _ (z ▸ h4); cases hps)⟩
theorem Dr.fresh {T : List (Addr × Str)} {d c l : Addr} {H H' : Hp} (e : Dr T d c H H') (s : Src H' d c) (h : H' l = none) : Fresh H l := fun o ho => by
  obtain ⟨n1, n2⟩ := s.ned h
  by_cases t : ∃ ps, o = .tbl ps
  · exact t
  · have := e.keep l o n1 n2 ho (fun ps z => t ⟨ps, z⟩)
    rw [h] at this
    cases this
def EntI (T : List (Addr × Str)) (d c : Addr) (ord : List Row) (H : Hp) (fa : Addr) (last : Int) (i : Nat) (H' : Hp) : Prop := Dr T d c H H' ∧ Src H' d c ∧ Fresh H fa ∧ fa ≠ d ∧ fa ≠ c ∧ ∃ xs es, H' fa = some (.lst xs) ∧ Tps H' xs (es.map En.k) ∧ rowsOf es = ord.take i ∧ lateGo 0 es ∧ mx es = last ∧ es.length ≤ 2 * i ∧ (∀ m, En.mark m ∈ es → 0 < m ∧ m < 100) ∧ (∀ r ∈ ord.drop i, last ≤ r.t) ∧ 0 ≤ last
section
variable (T : List (Addr × Str))
/-- the rows in some order, marks between; no row comes behind a mark above its time -/
def sp_draw_entries : Sp := fun vs H Q _ => ∃ (d c a : Addr) (xs : List V) (rs : List Row), vs = [.ref d, .ref a] ∧ Src H d c ∧ H a = some (.lst xs) ∧ Tps H xs (rs.map Row.k) ∧ a ≠ c ∧ rs.length ≤ 12 ∧ (∀ r ∈ rs, 0 ≤ r.t ∧ r.t < 100) ∧
  ∀ v (es : List En) H', Dr T d c H H' → Src H' d c → Tp H' v (partK es) → lateGo 0 es → (rowsOf es).Perm rs → es.length ≤ 2 * rs.length → (∀ m, En.mark m ∈ es → 0 < m ∧ m < 100) → Q v H'
end
variable {P : Program} {w : World} {K : PySem.W.Frag} {mg : Str → Option Value} {base : Heap} {T : List (Addr × Str)} {f : Addr} {fd : FuncData}
abbrev N__law_draw_entries : List Str := ["_law_source", "_law_rows", "_law_found", "_law_order", "_law_last", "_law_k", "_law_row", "_law_mark", "_law_late"]
theorem sc__law_draw_entries : FnScope N__law_draw_entries ["_law_source", "_law_rows"] (defScope s__law_draw_entries) := ⟨rfl, rfl, rfl, by decide +kernel, rfl, by decide +kernel, by decide +kernel⟩
theorem ok__law_draw_entries (B : Bs mg) (D__law_pick : Df P w K mg base "_law_pick" 1 ["_law_source", "_law_most"] (sp_pick T)) (D__law_any_order : Df P w K mg base "_law_any_order" 2 ["_law_source", "_law_things_here"] (sp_any T)) (hg : mg "_law_draw_entries" = some (.ref f)) (F : FnP K "_law_draw_entries" s__law_draw_entries f fd) : Df P w K mg base "_law_draw_entries" 3 ["_law_source", "_law_rows"] (sp_draw_entries T) := by
  refine df_mk hg F sc__law_draw_entries (fun vs H Q E h => ?_) (fun _ _ _ _ _ _ us hl => match us, hl with | [_, _], _ => rfl) (fun cdv A outer s H vs Q E hr h => ?_)
  · obtain ⟨_, _, _, _, _, rfl, _⟩ := h
    rfl
  · obtain ⟨d, c, a, xs, rs, rfl, src, ha, tx, nac, hl, ht, k⟩ := h
    refine ⟨_,
      (pss_cons (ps_par3 (i := 2) (j := 3) (l := 4) (by rfl) sc__law_draw_entries.nd rfl rfl rfl (by decide) (by decide) (by decide) rfl rfl rfl (pa_cons (pe_lst pa_nil) (pa_cons (pe_df D__law_any_order hr (pa_cons (pv 0) (pa_cons (pv 1) pa_nil))) (pa_cons pe_int pa_nil))) (by rfl))
    (pss_cons (ps_for PassesOwn.never rfl (pi_enumK (K := K) rfl (by rfl) B.enumerate_ (pa_cons (pv 3) pa_nil)) (pg_tupK (n := 2) (K := K) rfl rfl (pgs_cons (pg_name (i := 5) sc__law_draw_entries.nd rfl (by first | exact Or.inl rfl | exact Or.inr rfl)) (pgs_cons (pg_name (i := 6) sc__law_draw_entries.nd rfl (by first | exact Or.inl rfl | exact Or.inr rfl)) pgs_nil)))
    (pss_cons (ps_set (i := 7) sc__law_draw_entries.nd rfl (by first | exact Or.inl rfl | exact Or.inr rfl) (pe_df D__law_pick hr (pa_cons (pv 0) (pa_cons (pe_op op_add (pe_callB (minK (K := K) rfl rfl) (by rfl) B.min_ (by decide +kernel) (pa_cons (pe_lc (own := [("_law_late", 8)]) (by rfl) sc__law_draw_entries.nd (pi_listK (K := K) rfl (pe_slice (sl_listK (K := K) rfl) (pv 3) (po_some (pv 5)) po_none)) (blkOk_by (N := N__law_draw_entries) (sc := defScope s__law_draw_entries) (by decide +kernel)) (fun _ _ _ _ _ => (pg_name (i := 8) sc__law_draw_entries.nd rfl (by first | exact Or.inl rfl | exact Or.inr rfl))) (fun _ _ _ _ _ => pts_nil) (fun _ _ _ _ _ => (pe_ix (ix_tupK (K := K) rfl) (pv 8) pe_int (fun _ _ => rfl)))) pa_nil)) pe_int) pa_nil))))
    (pss_cons (ps_if (PW.pt (pw_and (pt_cmpR op_eq (pe_df D__law_pick hr (pa_cons (pv 0) (pa_cons pe_int pa_nil))) pe_int (nomark _)) (pw_and1 (pt_cmpR op_gt (pv 7) (pv 4) (nomark _))))) (pss_one (ps_par (i := 2) (j := 4) (by rfl) sc__law_draw_entries.nd rfl rfl (by decide) rfl rfl (pa_cons (pe_op op_cat (pv 2) (pe_lst (pa_cons (pe_tup (pa_cons pe_str (pa_cons (pv 7) pa_nil))) pa_nil))) (pa_cons (pv 7) pa_nil)) (by rfl)))
    pss_nil)
    (pss_one (ps_expr (pe_bmK (K := K) rfl PySem.F.plainAttrs_list PySem.F.slot_list_append PySem.F.type_list_append mt_append (pv 2) (pa_cons (pe_op (op_catK (K := K) rfl) (pe_tup (pa_cons pe_str pa_nil)) (pv 6)) pa_nil)))))))
    (pss_one (ps_ret (pe_callTy (tupOfK (K := K) rfl) (by rfl) B.tuple_ (by decide +kernel) (pa_cons (pv 2) pa_nil))))))
      , ?_⟩
    walk_at "rd2"
    intro p hp
    have e0 : Sm T H (upd H p (.lst [])) := Sm.new hp
    have h0 : (upd H p (.lst [])) p = some (.lst []) := upd_same
    have fp : Fresh H p := fun o ho => by rw [hp] at ho; cases ho
    obtain ⟨npd, npc⟩ := src.ned hp
    have src0 := src.sm e0
    generalize upd H p (.lst []) = H0 at e0 h0 src0
    refine ⟨d, c, a, rs.map Row.k, xs, rfl, src0, e0.lst ha, Tps.ts e0.ts _ _ tx, nac, by rw [List.length_map]; omega, fun oa os es0 H1 dr1 src1 foa hoa tos pm => ?_⟩
    obtain ⟨ord, rfl, po⟩ := perm_back unk_k pm
    have hlo : ord.length ≤ 12 := by rw [po.length_eq]; exact hl
    have hp1 := dr1.lst npd npc h0
    obtain ⟨nod, noc⟩ := src0.nedF foa
    have dr0 : Dr T d c H H1 := (Dr.of e0).trans dr1
    have ho : ∀ r ∈ ord, 0 ≤ r.t ∧ r.t < 100 := fun r hr => ht r (po.mem_iff.mp hr)
    have prr : ∀ {H1 : Hp} {xs : List V} {as : List Row}, Tps H1 xs (as.map Row.k) → Paired ((fun (H : Hp) v (t : Row) => Tp H v t.k) H1) xs as := by
      intro H1 xs as
      induction as generalizing xs with
      | nil => intro h; obtain rfl := h.nil_inv; exact .nil
      | cons a as ih => intro h; obtain ⟨v, ws, rfl, tv, tw⟩ := h.cons_inv; exact .cons tv (ih tw)
    refine forE (T := T) (IR := fun H v (r : Row) => Tp H v r.k) ord (fun Q' k' => by walk_at "rd2"; exact k') hoa (prr tos) (fun i σ' H' => (∃ fa last z5 z6 z7 z8, σ' = [some (.ref d), some (.ref a), some (.ref fa), some (.ref oa), some (.int last), z5, z6, z7, z8] ∧ fa ≠ oa ∧ EntI T d c ord H fa last i H') ∧ H' oa = some (.lst os)) ⟨⟨p, 0, _, _, _, _, rfl, fun z => (by obtain ⟨ps, hps⟩ := foa _ (z ▸ h0); cases hps), dr0, src1, fp, npd, npc, [], [], hp1, .nil, rfl, True.intro, rfl, Nat.le_refl _, fun m hm => (by cases hm), fun r hr => (ho r hr).1, Int.le_refl _⟩, hoa⟩
      (fun i σ' H' _ h => h.2) (fun H' v b t h => Tp.ts t _ _ h) (fun i q x r σ' H' N hi tsx hq tx pv hN => ?_) fun σ' H' tsx pv => ?_
    · obtain ⟨⟨fa, last, z5, z6, z7, z8, rfl, nfo, dr, src', ffa, n1, n2, xs, es, hxs, txs, hro, hlate, hmx, hle, hmk, hrest, hl0⟩, hoa'⟩ := pv
      have hil : i < ord.length := (List.getElem?_eq_some_iff.mp hi).1
      have e2 : Sm T H' (upd H' q (.tup [.int (i : Int), x])) := Sm.new hq
      refine gP upd_same ?_
      have tsN : TS (upd H' q (.tup [.int (i : Int), x])) (upd H' q (.tup [.int (i : Int), x])) := TS.refl _
      generalize upd H' q (.tup [.int (i : Int), x]) = H2 at e2 hN tsN
      walk_at "rd2"
      have nof : oa ≠ d ∧ oa ≠ c := ⟨nod, noc⟩
      have app : ∀ (fa' : Addr) (last' : Int) (es' : List En) (xs' : List V) (z7' z8' : Option V) (H4 : Hp), Dr T d c H H4 → Src H4 d c → Fresh H fa' → fa' ≠ d → fa' ≠ c → fa' ≠ oa → H4 fa' = some (.lst xs') → Tps H4 xs' (es'.map En.k) → rowsOf es' = ord.take i → lateGo 0 es' → mx es' = last' → es'.length ≤ 2 * i + 1 → (∀ m, En.mark m ∈ es' → 0 < m ∧ m < 100) → (∀ r ∈ ord.drop i, last' ≤ r.t) → 0 ≤ last' → H4 oa = some (.lst os) → TS H2 H4 → Tp H4 x r.k →
          (tyV K "list" (.ref fa') H4 ∧ ∀ p, H4 p = none → rCatA K (.ref p) x (upd H4 p (.tup [.str "row"])) fun x6 H5 => rAppend (.ref fa') [x6] H5 fun x7 H6 => N [some (.ref d), some (.ref a), some (.ref fa'), some (.ref oa), some (.int last'), some (.int (i : Int)), some x, z7', z8'] H6) := by
        intro fa' last' es' xs' z7' z8' H4 dr4 src4 ff4 nf1 nf2 nf3 hx4 tx4 hro4 hla4 hmx4 hle4 hmk4 hre4 hl4 hoa4 ts4 txr
        refine ⟨tyl hx4, fun p5 hp5 => ?_⟩
        have e5 : Sm T H4 (upd H4 p5 (.tup [.str "row"])) := Sm.new hp5
        have t5 : Tp (upd H4 p5 (.tup [.str "row"])) (.ref p5) (.tup [.text "row"]) := tup_new hp5 (.cons (.str _) .nil)
        generalize upd H4 p5 (.tup [.str "row"]) = H5 at e5 t5
        refine cat_d (T := T) (es := [.num r.t, .num r.s, .tup r.vs]) t5 (Tp.ts e5.ts _ _ txr) (by show 1 + 3 ≤ 100000; decide) fun v6 H6 e6 t6 => ?_
        have e56 := e5.trans e6
        have hx6 := e56.lst hx4
        have lx : xs'.length ≤ 100 := by
          rw [tx4.length, List.length_map]
          omega
        refine ⟨fa', xs', v6, rfl, rfl, hx6, sz_lt' (by omega), ?_⟩
        have mu : Mu (H6 fa') := by rw [hx6]; exact mu_lst
        have ts7 : TS H6 (upd H6 fa' (.lst (xs' ++ [v6]))) := TS.mu mu
        have hir : r ∈ ord.drop i := by
          rw [List.drop_eq_getElem_cons hil]
          rw [List.getElem?_eq_getElem hil] at hi
          cases hi
          exact List.mem_cons_self
        refine hN _ _ (ts4.trans (e56.ts.trans ts7)) ⟨⟨fa', last', _, _, _, _, rfl, nf3, (dr4.trans (Dr.of e56)).mutF ff4 mu, (src4.sm e56).upd nf1 nf2, ff4, nf1, nf2, xs' ++ [v6], es' ++ [.row r], upd_same, ?_, ?_, ?_, ?_, ?_, ?_, ?_, hl4⟩, by rw [upd_ne (Ne.symm nf3)]; exact e56.lst hoa4⟩
        · rw [List.map_append]
          exact (Tps.ts (e56.ts.trans ts7) _ _ tx4).append (.cons (Tp.ts ts7 _ _ t6) .nil)
        · unfold rowsOf at hro4 ⊢
          rw [List.filterMap_append, hro4, List.take_add_one, hi]
          rfl
        · rw [lateGo_app]
          refine ⟨hla4, ?_, True.intro⟩
          have := hre4 r hir
          unfold mx at hmx4
          rw [hmx4]
          exact this
        · unfold mx at hmx4 ⊢
          rw [List.foldl_append, hmx4]
          rfl
        · rw [List.length_append, List.length_singleton]
          omega
        · intro m hm
          rcases List.mem_append.mp hm with hm | hm
          · exact hmk4 m hm
          · cases List.mem_singleton.mp hm
        · intro r' hr'
          refine hre4 r' ?_
          rw [List.drop_eq_getElem_cons hil]
          exact List.mem_cons_of_mem _ hr'
      have hoa2 := e2.lst hoa'
      have tos2 := Tps.ts (tsx.trans e2.ts) _ _ tos
      have hosl : os.length = ord.length := by rw [tos2.length, List.length_map]
      refine lcL (T := T) (ord.drop i) (fun H v (r : Row) => Tp H v r.k) (fun _ _ v (m : Int) => v = .int m) (fun r => some r.t) (fun Q' k' => ?_) (by rw [List.length_drop]; omega) (fun _ _ _ _ e t => Tp.ts e.ts _ _ t) (fun _ _ _ _ _ _ r => r) (fun D i2 y r2 H3 hi2 e3 ty hD Qy Qn hy hnn => ?_) (fun D H3 ys e3 hD pr => ?_)
      · walk_at "rd2"
        refine ⟨oa, os, rfl, .inl (.inl hoa2), fun p9 hp9 => ?_⟩
        have ec : cutV os (some (i : Int)) none = os.drop i := by
          unfold cutV
          rw [HT.sIx_nat, HT.sIx_none, Nat.min_eq_left (by omega)]
          exact List.take_of_length_le (by rw [List.length_drop]; exact Nat.le_refl _)
        rw [ec]
        have e9 : Sm T H2 (upd H2 p9 (.lst (os.drop i))) := Sm.new hp9
        refine k' p9 _ _ e9 upd_same (prr ?_)
        rw [List.map_drop]
        exact (Tps.ts e9.ts _ _ tos2).drop i
      · walk_at "rd2"
        refine ix_d (i := 0) ty rfl fun y0 ty0 => ?_
        obtain rfl := ty0.num_inv
        exact hy _ r2.t H3 rfl (Sm.refl _ _) rfl
      · rw [fm_map] at pr
        have eys : ys = ((ord.drop i).map Row.t).map V.int := by
          have intsV : ∀ {ys : List V} {l : List Int}, Paired (fun v (i : Int) => v = .int i) ys l → ys = l.map V.int := by
            intro ys l h
            induction h with
            | nil => rfl
            | cons r _ ih => rw [List.map_cons, ← ih, r]
          exact intsV pr
        refine ⟨D, (ord.drop i).map Row.t, rfl, .inl (.inl (by rw [hD, eys])), by rw [List.length_map, List.length_drop]; omega, fun mm hmm hle2 => ?_⟩
        obtain ⟨rm, hrm, ermm⟩ := List.mem_map.mp hmm
        have hrm0 := ho rm (List.mem_of_mem_drop hrm)
        have hle3 : ∀ r ∈ ord.drop i, mm ≤ r.t := fun r hr => hle2 _ (List.mem_map_of_mem hr)
        obtain ⟨most, hmo⟩ : ∃ most : Nat, mm + 1 = (most : Int) := ⟨(mm + 1).toNat, by omega⟩
        refine ⟨mm, rfl, ?_⟩
        rw [hmo]
        have e23 := e2.trans e3
        refine ⟨d, c, most, rfl, src'.sm e23, by omega, fun nk H4 dr4 src4 hn4 => ?_⟩
        refine ⟨d, c, 3, rfl, src4, by decide, fun n3 H5 dr5 src5 hn5 => ?_⟩
        have dr25 : Dr T d c H' H5 := ((Dr.of e23).trans dr4).trans dr5
        have drH5 := dr.trans dr25
        have hfa5 := dr25.lst n1 n2 hxs
        have txs5 := Tps.ts dr25.ts _ _ txs
        have hoa5 := dr25.lst nod noc hoa'
        have ts25 : TS H2 H5 := e3.ts.trans (dr4.ts.trans dr5.ts)
        have tx5 := Tp.ts dr25.ts _ _ tx
        have hnk : (nk : Int) ≤ mm := by omega
        have plain := app fa last es xs (some (.int (nk : Int))) z8 H5 drH5 src5 ffa n1 n2 nfo hfa5 txs5 hro hlate hmx (by omega) hmk hrest hl0 hoa5 ts25 tx5
        refine ⟨rfl, ite2 (fun c1 => ?_) (fun c1 => plain)⟩
        refine ⟨(nk : Int), rfl, ite2 (fun c2 => ?_) (fun c2 => plain)⟩
        have c2 : last < (nk : Int) := of_decide_eq_true c2
        intro p6 hp6
        have e6 : Sm T H5 (upd H5 p6 (.tup [V.str "mark", V.int (nk : Int)])) := Sm.new hp6
        have t6 : Tp (upd H5 p6 (.tup [V.str "mark", V.int (nk : Int)])) (.ref p6) (En.mark (nk : Int)).k := tup_new hp6 (.cons (.str _) (.cons (.int _) .nil))
        generalize upd H5 p6 (.tup [V.str "mark", V.int (nk : Int)]) = H6 at e6 t6
        intro p7 hp7
        have e7 : Sm T H6 (upd H6 p7 (.lst [.ref p6])) := Sm.new hp7
        have h7 : (upd H6 p7 (.lst [.ref p6])) p7 = some (.lst [.ref p6]) := upd_same
        generalize upd H6 p7 (.lst [.ref p6]) = H7 at e7 h7
        have e67 := e6.trans e7
        have lx : xs.length ≤ 100 := by
          rw [txs.length, List.length_map]
          omega
        refine ⟨fa, p7, xs, [.ref p6], rfl, rfl, e67.lst hfa5, h7, sz_le' (by rw [List.length_singleton]; omega), fun p8 hp8 => ?_⟩
        have e8 : Sm T H7 (upd H7 p8 (.lst (xs ++ [.ref p6]))) := Sm.new hp8
        have h8 : (upd H7 p8 (.lst (xs ++ [.ref p6]))) p8 = some (.lst (xs ++ [.ref p6])) := upd_same
        have src7 := src5.sm e67
        obtain ⟨n81, n82⟩ := src7.ned hp8
        have f8 : Fresh H p8 := (drH5.trans (Dr.of e67)).fresh src7 hp8
        have n8o : p8 ≠ oa := fun z => by have := e67.lst hoa5; rw [← z, hp8] at this; cases this
        generalize upd H7 p8 (.lst (xs ++ [.ref p6])) = H8 at e8 h8
        have e78 := e7.trans e8
        have e68 := e67.trans e8
        refine app p8 (nk : Int) (es ++ [.mark (nk : Int)]) (xs ++ [.ref p6]) _ _ H8 (drH5.trans (Dr.of e68)) (src5.sm e68) f8 n81 n82 n8o h8 ?_ ?_ (lateGo_mark _ _ _ hlate) ?_ ?_ ?_ (fun r hr => by have := hle3 r hr; omega) (by omega) (e68.lst hoa5) (ts25.trans e68.ts) (Tp.ts e68.ts _ _ tx5)
        · rw [List.map_append]
          exact (Tps.ts e68.ts _ _ txs5).append (.cons (Tp.ts e78.ts _ _ t6) .nil)
        · unfold rowsOf at hro ⊢
          rw [List.filterMap_append, hro]
          exact List.append_nil _
        · unfold mx at hmx ⊢
          rw [List.foldl_append, hmx]
          show max last (nk : Int) = _
          omega
        · rw [List.length_append, List.length_singleton]
          omega
        · intro m hm
          rcases List.mem_append.mp hm with hm | hm
          · exact hmk m hm
          · cases List.mem_singleton.mp hm
            omega
    · obtain ⟨⟨fa, last, z5, z6, z7, z8, rfl, nfo, dr, src', ffa, n1, n2, xs, es, hxs, txs, hro, hlate, hmx, hle, hmk, hrest, hl0⟩, hoa'⟩ := pv
      rw [List.take_length] at hro
      walk_at "rd2"
      refine tuple_d (T := T) hxs txs fun v5 H5 e5 t5 => ?_
      exact k v5 es H5 (dr.trans (Dr.of e5)) (src'.sm e5) t5 hlate (by rw [hro]; exact po) (by rw [po.length_eq] at hle; exact hle) hmk
end K67
end
/-! ## K67L8 -/
section
set_option maxHeartbeats 4000000
/-! K67L8: a join drawn -/
namespace K67
open PySem PySem.Spec PyProof.Rows L2 LamX NdefX
local macro_rules | `(tactic| walk_at "sm") => `(tactic| first | assumption | exact Sm.refl _ _ | (refine Sm.trans ?_ (by assumption); walk_at "sm"))
local macro_rules | `(tactic| walk_at "ts") => `(tactic| first | assumption | exact TS.refl _ | (refine TS.trans ?_ (by assumption); walk_at "ts") | (refine TS.trans ?_ (Sm.ts (by assumption)); walk_at "ts"))
local macro_rules | `(tactic| walk_at "tp") => `(tactic| first | assumption | exact Tp.int _ | exact Tp.str _ | exact Tp.non | (refine Tp.ts (H := ?_) ?_ _ _ (by assumption); walk_at "ts"))
local macro_rules | `(tactic| walk_at "tps") => `(tactic| first | assumption | exact Tps.nil | (refine Tps.cons ?_ ?_; · walk_at "tp"; · walk_at "tps") | (refine Tps.ts (H := ?_) ?_ _ _ (by assumption); walk_at "ts"))
local macro_rules | `(tactic| walk_at "rd") => `(tactic| try simp only [rMax2, and_assoc, tYes, tSeq, tIfS, tRet, tNext, tTest, tB, tOp, tUn, tVar, tC, tTup, tLst, tCons, tNil, tIf, tCB, tCall, tBM, tBM0, tAsg, gName, gCons, gNil, gSub, tDrop, tPar, tPar3, tAug, tAnd, tOr, tNot, tAndV, tOrV, tNotV, tChain, tSl, tPart, tNoPart, rI0, rI, rU, rEq, rNe, L2.start, wipe, sz0, sz1, sz2, sz3, sz4, sz5, sz6, List.map_cons, List.map_nil, List.length_cons, List.length_nil, List.cons_append, List.nil_append, List.append_nil, List.getElem?_cons_zero, List.getElem?_cons_succ, List.set_cons_zero, List.set_cons_succ, List.replicate_zero, List.replicate_succ, Option.some.injEq, V.bl.injEq, V.int.injEq, V.str.injEq, List.cons.injEq, and_true, true_and, exists_eq_left', exists_eq_left, exists_eq', exists_eq, exists_and_left, Nat.reduceSub, Nat.reduceAdd, Nat.reduceLeDiff, decide_true, decide_false, if_true, if_false, Bool.false_eq_true, reduceIte])
local macro_rules | `(tactic| walk_at "rd2") => `(tactic| try simp only [tDGet, sDPut, tDNewK, tNNew, tNGet2, tNSetd, tNGet, sNPut, tTupF, tCKw, tDead, sDead, tDispN, tPairs, StX.tStar, rNeDN, rNeDN2, rMax2, and_assoc, tYes, tSeq, tIfS, tRet, tNext, tTest, tB, tOp, tUn, tVar, tC, tTup, tLst, tCons, tNil, tIf, tCB, tCall, tBM, tBM0, tAsg, gName, gCons, gNil, gSub, tDrop, tPar, tPar3, tAug, tAnd, tOr, tNot, tAndV, tOrV, tNotV, tChain, tSl, tPart, tNoPart, rI0, rI, rU, rEq, rNe, L2.start, wipe, sz0, sz1, sz2, sz3, sz4, sz5, sz6, List.map_cons, List.map_nil, List.length_cons, List.length_nil, List.cons_append, List.nil_append, List.append_nil, List.getElem?_cons_zero, List.getElem?_cons_succ, List.set_cons_zero, List.set_cons_succ, List.replicate_zero, List.replicate_succ, Option.some.injEq, V.bl.injEq, V.int.injEq, V.str.injEq, List.cons.injEq, and_true, true_and, exists_eq_left', exists_eq_left, exists_eq', exists_eq, exists_and_left, Nat.reduceSub, Nat.reduceAdd, Nat.reduceLeDiff, decide_true, decide_false, if_true, if_false, Bool.false_eq_true, reduceIte])

/-- one of two texts -/
def tIfStr (tc : TT) (a b : Str) : TE := fun σ H Q => tc σ H fun k H' => Q (.str (if k = true then a else b)) H'
theorem pe_ifS {X : Cx} {e : Expr} {tc : TT} {a b : Str} (h : PE X e (tIf tc (tC (.str a)) (tC (.str b)))) : PE X e (tIfStr tc a b) := ⟨fun pins s σ H Q I z => h.run pins s σ H Q I (by
  have e : (fun (k : Bool) (H' : Hp) => if k = true then tC (.str a) σ H' Q else tC (.str b) σ H' Q) = fun k H' => Q (.str (if k = true then a else b)) H' := by
    funext k H'
    cases k <;> rfl
  show tc σ H (fun k H' => if k = true then tC (.str a) σ H' Q else tC (.str b) σ H' Q)
  rw [e]
  exact z)⟩
theorem cut_take (xs : List V) (n : Nat) : cutV xs none (some (n : Int)) = xs.take n := by
  unfold cutV
  rw [HT.sIx_nat, HT.sIx_none, List.drop_zero, Nat.sub_zero]
  by_cases h : n ≤ xs.length
  · rw [Nat.min_eq_left h]
  · rw [Nat.min_eq_right (by omega), List.take_of_length_le (by omega), List.take_of_length_le (by omega)]
def unText : NestedKey → Str
  | .text x => x
  | _ => ""
theorem unText_k (x : Str) : unText (.text x) = x := rfl
def unCol : NestedKey → Col
  | .tup [.text a, .text b] => (a, b)
  | _ => ("", "")
theorem unCol_k (x : Col) : unCol (colK x) = x := rfl
/-- what a drawn join is -/
structure DrawnQ (q : Qry) : Prop where
  ok : q.ok
  kl : ∀ n ∈ q.keys, n ∈ colNames q.L
  kr : ∀ n ∈ q.keys, n ∈ colNames q.R
  nd : (colNames q.R).Nodup
def allC : List Col := [("who", "text"), ("n", "number"), ("at", "number")]
section
variable (T : List (Addr × Str))
def sp_draw_join : Sp := fun vs H Q _ => ∃ (d c : Addr), vs = [.ref d] ∧ Src H d c ∧ ∀ (a : Addr) (vl vr vk vp : V) (q : Qry) H', Dr T d c H H' → Src H' d c → H' a = some (.lst [vl, vr, vk, .int q.back, .int q.ahead, vp]) → Tp H' vl (colsK q.L) → Tp H' vr (colsK q.R) → Tp H' vk (.tup (txts q.keys)) → Tp H' vp (joinJ q).k → DrawnQ q → Q (.ref a) H'
end
variable {P : Program} {w : World} {K : PySem.W.Frag} {mg : Str → Option Value} {base : Heap} {T : List (Addr × Str)} {f : Addr} {fd : FuncData}
abbrev N__law_draw_join : List Str := ["_law_source", "_law_left", "_law_keys", "_law_some", "_law_right", "_law_back", "_law_ahead", "_law_one", "_law_other", "_law_places", "_law_name", "_law_kind", "_law_k"]
theorem sc__law_draw_join : FnScope N__law_draw_join ["_law_source"] (defScope s__law_draw_join) := ⟨rfl, rfl, rfl, by decide +kernel, rfl, by decide +kernel, by decide +kernel⟩
theorem ok__law_draw_join (B : Bs mg) (D__law_pick : Df P w K mg base "_law_pick" 1 ["_law_source", "_law_most"] (sp_pick T)) (D__law_any_order : Df P w K mg base "_law_any_order" 2 ["_law_source", "_law_things_here"] (sp_any T)) (hg : mg "_law_draw_join" = some (.ref f)) (F : FnP K "_law_draw_join" s__law_draw_join f fd) : Df P w K mg base "_law_draw_join" 3 ["_law_source"] (sp_draw_join T) := by
  refine df_mk hg F sc__law_draw_join (fun vs H Q E h => ?_) (fun _ _ _ _ _ _ us hl => match us, hl with | [_], _ => rfl) (fun cdv A outer s H vs Q E hr h => ?_)
  · obtain ⟨_, _, rfl, _⟩ := h
    rfl
  · obtain ⟨d, c, rfl, src, k⟩ := h
    refine ⟨_,
      (pss_cons (ps_set (i := 1) sc__law_draw_join.nd rfl (by first | exact Or.inl rfl | exact Or.inr rfl) (pe_slice (sl_listK (K := K) rfl) (pe_lst (pa_cons (pe_tup (pa_cons pe_str (pa_cons pe_str pa_nil))) (pa_cons (pe_tup (pa_cons pe_str (pa_cons pe_str pa_nil))) (pa_cons (pe_tup (pa_cons pe_str (pa_cons pe_str pa_nil))) pa_nil)))) po_none (po_some (pe_op op_add pe_int (pe_df D__law_pick hr (pa_cons (pv 0) (pa_cons pe_int pa_nil)))))))
    (pss_cons (ps_set (i := 2) sc__law_draw_join.nd rfl (by first | exact Or.inl rfl | exact Or.inr rfl) (pe_slice (sl_listK (K := K) rfl) (pe_df D__law_any_order hr (pa_cons (pv 0) (pa_cons (pe_lc (own := [("_law_name", 10), ("_law_kind", 11)]) (by rfl) sc__law_draw_join.nd (pi_listK (K := K) rfl (pv 1)) (blkOk_by (N := N__law_draw_join) (sc := defScope s__law_draw_join) (by decide +kernel)) (fun _ _ _ _ _ => (pg_tupK (n := 2) (K := K) rfl rfl (pgs_cons (pg_name (i := 10) sc__law_draw_join.nd rfl (by first | exact Or.inl rfl | exact Or.inr rfl)) (pgs_cons (pg_name (i := 11) sc__law_draw_join.nd rfl (by first | exact Or.inl rfl | exact Or.inr rfl)) pgs_nil)))) (fun _ _ _ _ _ => (pts_one (pt_cmpR op_ne (pv 10) pe_str (nomark _)))) (fun _ _ _ _ _ => (pv 10))) pa_nil))) po_none (po_some (pe_df D__law_pick hr (pa_cons (pv 0) (pa_cons pe_int pa_nil))))))
    (pss_cons (ps_set (i := 3) sc__law_draw_join.nd rfl (by first | exact Or.inl rfl | exact Or.inr rfl) (pe_lst (pa_cons (pe_tup (pa_cons pe_str (pa_cons pe_str pa_nil))) (pa_cons (pe_tup (pa_cons ((pe_ifS (pe_ifExp (pt_cmpR (op_inK (K := K) rfl) pe_str (pv 2) (by with_unfolding_all rfl)) pe_str pe_str))) (pa_cons pe_str pa_nil))) (pa_cons (pe_tup (pa_cons ((pe_ifS (pe_ifExp (pt_cmpR (op_inK (K := K) rfl) pe_str (pv 2) (by with_unfolding_all rfl)) pe_str pe_str))) (pa_cons pe_str pa_nil))) pa_nil)))))
    (pss_cons (ps_set (i := 4) sc__law_draw_join.nd rfl (by first | exact Or.inl rfl | exact Or.inr rfl) (pe_df D__law_any_order hr (pa_cons (pv 0) (pa_cons (pv 3) pa_nil))))
    (pss_cons (ps_par (i := 5) (j := 6) (by rfl) sc__law_draw_join.nd rfl rfl (by decide) rfl rfl (pa_cons (pe_ix (ix_listK (K := K) rfl) (pe_lst (pa_cons pe_int (pa_cons pe_int (pa_cons pe_int (pa_cons pe_int pa_nil))))) (pe_df D__law_pick hr (pa_cons (pv 0) (pa_cons pe_int pa_nil))) (fun _ _ => rfl)) (pa_cons (pe_ix (ix_listK (K := K) rfl) (pe_lst (pa_cons pe_int (pa_cons pe_int (pa_cons pe_int pa_nil)))) (pe_df D__law_pick hr (pa_cons (pv 0) (pa_cons pe_int pa_nil))) (fun _ _ => rfl)) pa_nil)) (by rfl))
    (pss_cons (ps_asg (pe_tup (pa_cons (pe_lc (own := [("_law_name", 10), ("_law_kind", 11)]) (by rfl) sc__law_draw_join.nd (pi_listK (K := K) rfl (pv 1)) (blkOk_by (N := N__law_draw_join) (sc := defScope s__law_draw_join) (by decide +kernel)) (fun _ _ _ _ _ => (pg_tupK (n := 2) (K := K) rfl rfl (pgs_cons (pg_name (i := 10) sc__law_draw_join.nd rfl (by first | exact Or.inl rfl | exact Or.inr rfl)) (pgs_cons (pg_name (i := 11) sc__law_draw_join.nd rfl (by first | exact Or.inl rfl | exact Or.inr rfl)) pgs_nil)))) (fun _ _ _ _ _ => pts_nil) (fun _ _ _ _ _ => (pv 10))) (pa_cons (pe_lc (own := [("_law_name", 10), ("_law_kind", 11)]) (by rfl) sc__law_draw_join.nd (pi_listK (K := K) rfl (pv 4)) (blkOk_by (N := N__law_draw_join) (sc := defScope s__law_draw_join) (by decide +kernel)) (fun _ _ _ _ _ => (pg_tupK (n := 2) (K := K) rfl rfl (pgs_cons (pg_name (i := 10) sc__law_draw_join.nd rfl (by first | exact Or.inl rfl | exact Or.inr rfl)) (pgs_cons (pg_name (i := 11) sc__law_draw_join.nd rfl (by first | exact Or.inl rfl | exact Or.inr rfl)) pgs_nil)))) (fun _ _ _ _ _ => pts_nil) (fun _ _ _ _ _ => (pv 10))) pa_nil))) (pg_tupK (n := 2) (K := K) rfl rfl (pgs_cons (pg_name (i := 7) sc__law_draw_join.nd rfl (by first | exact Or.inl rfl | exact Or.inr rfl)) (pgs_cons (pg_name (i := 8) sc__law_draw_join.nd rfl (by first | exact Or.inl rfl | exact Or.inr rfl)) pgs_nil))))
    (pss_cons (ps_set (i := 9) sc__law_draw_join.nd rfl (by first | exact Or.inl rfl | exact Or.inr rfl) (pe_tup (pa_cons (pe_callTy (tupOfK (K := K) rfl) (by rfl) B.tuple_ (by decide +kernel) (pa_cons (pe_lc (own := [("_law_name", 10)]) (by rfl) sc__law_draw_join.nd (pi_listK (K := K) rfl (pv 2)) (blkOk_by (N := N__law_draw_join) (sc := defScope s__law_draw_join) (by decide +kernel)) (fun _ _ _ _ _ => (pg_name (i := 10) sc__law_draw_join.nd rfl (by first | exact Or.inl rfl | exact Or.inr rfl))) (fun _ _ _ _ _ => pts_nil) (fun _ _ _ _ _ => (pe_bmK (K := K) rfl PySem.F.plainAttrs_list PySem.F.slot_list_index PySem.F.type_list_index (indexK (K := K) rfl) (pv 7) (pa_cons (pv 10) pa_nil)))) pa_nil)) (pa_cons (pe_callTy (tupOfK (K := K) rfl) (by rfl) B.tuple_ (by decide +kernel) (pa_cons (pe_lc (own := [("_law_name", 10)]) (by rfl) sc__law_draw_join.nd (pi_listK (K := K) rfl (pv 2)) (blkOk_by (N := N__law_draw_join) (sc := defScope s__law_draw_join) (by decide +kernel)) (fun _ _ _ _ _ => (pg_name (i := 10) sc__law_draw_join.nd rfl (by first | exact Or.inl rfl | exact Or.inr rfl))) (fun _ _ _ _ _ => pts_nil) (fun _ _ _ _ _ => (pe_bmK (K := K) rfl PySem.F.plainAttrs_list PySem.F.slot_list_index PySem.F.type_list_index (indexK (K := K) rfl) (pv 8) (pa_cons (pv 10) pa_nil)))) pa_nil)) pa_nil))))
    (pss_cons (ps_set (i := 9) sc__law_draw_join.nd rfl (by first | exact Or.inl rfl | exact Or.inr rfl) (pe_op (op_catK (K := K) rfl) (pv 9) (pe_tup (pa_cons (pe_callTy (tupOfK (K := K) rfl) (by rfl) B.tuple_ (by decide +kernel) (pa_cons (pe_lc (own := [("_law_k", 12)]) (by rfl) sc__law_draw_join.nd (pi_range1 (by rfl) B.range_ (pa_cons pe_int pa_nil)) (blkOk_by (N := N__law_draw_join) (sc := defScope s__law_draw_join) (by decide +kernel)) (fun _ _ _ _ _ => (pg_name (i := 12) sc__law_draw_join.nd rfl (by first | exact Or.inl rfl | exact Or.inr rfl))) (fun _ _ _ _ _ => (pts_one (pt_cmpR (op_notInK (K := K) rfl) (pe_ix (ix_listK (K := K) rfl) (pv 8) (pv 12) (fun _ _ => rfl)) (pv 2) (by with_unfolding_all rfl)))) (fun _ _ _ _ _ => (pv 12))) pa_nil)) (pa_cons (pv 5) (pa_cons (pv 6) pa_nil))))))
    (pss_one (ps_ret (pe_lst (pa_cons (pe_callTy (tupOfK (K := K) rfl) (by rfl) B.tuple_ (by decide +kernel) (pa_cons (pv 1) pa_nil)) (pa_cons (pe_callTy (tupOfK (K := K) rfl) (by rfl) B.tuple_ (by decide +kernel) (pa_cons (pv 4) pa_nil)) (pa_cons (pe_callTy (tupOfK (K := K) rfl) (by rfl) B.tuple_ (by decide +kernel) (pa_cons (pv 2) pa_nil)) (pa_cons (pv 5) (pa_cons (pv 6) (pa_cons (pv 9) pa_nil)))))))))))))))))
      , ?_⟩
    walk_at "rd2"
    simp only [tIfStr]
    walk_at "rd2"
    intro p0 hp0
    have f0 : Sm T H (upd H p0 (.tup [V.str "who", V.str "text"])) := Sm.new hp0
    have t0 : Tp (upd H p0 (.tup [V.str "who", V.str "text"])) (.ref p0) (colK ("who", "text")) := tup_new hp0 (.cons (.str _) (.cons (.str _) .nil))
    generalize upd H p0 (.tup [V.str "who", V.str "text"]) = H0 at f0 t0
    intro p1 hp1
    have f1 : Sm T H0 (upd H0 p1 (.tup [V.str "n", V.str "number"])) := Sm.new hp1
    have t1 : Tp (upd H0 p1 (.tup [V.str "n", V.str "number"])) (.ref p1) (colK ("n", "number")) := tup_new hp1 (.cons (.str _) (.cons (.str _) .nil))
    generalize upd H0 p1 (.tup [V.str "n", V.str "number"]) = H1 at f1 t1
    intro p2 hp2
    have f2 : Sm T H1 (upd H1 p2 (.tup [V.str "at", V.str "number"])) := Sm.new hp2
    have t2 : Tp (upd H1 p2 (.tup [V.str "at", V.str "number"])) (.ref p2) (colK ("at", "number")) := tup_new hp2 (.cons (.str _) (.cons (.str _) .nil))
    generalize upd H1 p2 (.tup [V.str "at", V.str "number"]) = H2 at f2 t2
    intro p3 hp3
    have f3 : Sm T H2 (upd H2 p3 (.lst [.ref p0, .ref p1, .ref p2])) := Sm.new hp3
    have h3 : (upd H2 p3 (.lst [.ref p0, .ref p1, .ref p2])) p3 = some (.lst [.ref p0, .ref p1, .ref p2]) := upd_same
    generalize upd H2 p3 (.lst [.ref p0, .ref p1, .ref p2]) = H3 at f3 h3
    have f03 := ((f0.trans f1).trans f2).trans f3
    have tl3 : Tps H3 [.ref p0, .ref p1, .ref p2] (allC.map colK) := .cons (Tp.ts ((f1.trans f2).trans f3).ts _ _ t0) (.cons (Tp.ts (f2.trans f3).ts _ _ t1) (.cons (Tp.ts f3.ts _ _ t2) .nil))
    have src3 := src.sm f03
    obtain ⟨n3d, n3c⟩ := (src.sm ((f0.trans f1).trans f2)).ned hp3
    refine ⟨d, c, 3, rfl, src3, by decide, fun n0 H4 dr4 src4 hn0 => ⟨_, rfl, ?_⟩⟩
    have h4 := dr4.lst n3d n3c h3
    refine ⟨p3, _, rfl, .inl (.inl h4), fun la hla => ?_⟩
    rw [show (1 + (n0 : Int)) = ((1 + n0 : Nat) : Int) by omega, cut_take]
    have f5 : Sm T H4 (upd H4 la (.lst (([V.ref p0, .ref p1, .ref p2] : List V).take (1 + n0)))) := Sm.new hla
    have h5 : (upd H4 la (.lst (([V.ref p0, .ref p1, .ref p2] : List V).take (1 + n0)))) la = some (.lst (([V.ref p0, .ref p1, .ref p2] : List V).take (1 + n0))) := upd_same
    have tl4 := Tps.ts dr4.ts _ _ tl3
    have tl5 : Tps (upd H4 la (.lst (([V.ref p0, .ref p1, .ref p2] : List V).take (1 + n0)))) (([V.ref p0, .ref p1, .ref p2] : List V).take (1 + n0)) ((allC.take (1 + n0)).map colK) := by
      rw [List.map_take]
      exact (Tps.ts f5.ts _ _ tl4).take _
    generalize upd H4 la (.lst (([V.ref p0, .ref p1, .ref p2] : List V).take (1 + n0))) = H5 at f5 h5 tl5
    generalize ([V.ref p0, .ref p1, .ref p2] : List V).take (1 + n0) = lx at h5 tl5
    obtain ⟨nld, nlc⟩ := src4.ned hla
    have src5 := src4.sm f5
    have dr05 : Dr T d c H H5 := ((Dr.of f03).trans dr4).trans (Dr.of f5)
    have hL : ∀ q ∈ allC.take (1 + n0), q ∈ allC := fun q hq => List.mem_of_mem_take hq
    have hLl : (allC.take (1 + n0)).length ≤ 3 := by rw [List.length_take]; exact Nat.min_le_right _ _
    generalize allC.take (1 + n0) = L at tl5 hL hLl
    show tLc _ _ _ _ _ _ _ _
    refine lcLf (T := T) L (fun H v (c : Col) => Tp H v (colK c)) (fun _ H v (n : Str) => Tp H v (.text n)) (fun c => if c.1 = "at" then none else some c.1) (fun Q' k' => ?_) (by omega) (fun _ _ _ _ e t => Tp.ts e.ts _ _ t) (fun _ _ _ _ _ xb t => Tp.ts xb.1 _ _ t) (fun D i y q H6 hi e6 ty hD Qy Qn hy hnn => ?_) (fun D H6 ys fD f6 hD pr => ?_)
    · walk_at "rd2"
      exact k' la lx H5 (Sm.refl _ _) h5 (tps_pr tl5)
    · refine gT2 ty fun v1 v2 t1 t2 => ?_
      obtain rfl := t1.text_inv
      walk_at "rd2"
      refine ⟨rfl, ?_⟩
      by_cases hq : q.1 = "at"
      · exact ifF (by simp [hq]) (hnn H6 (if_pos hq) (Sm.refl _ _))
      · exact ifT (by simp [hq]) (hy _ q.1 H6 (if_neg hq) (Sm.refl _ _) t1)
    generalize hns : L.filterMap (fun (c : Col) => if c.1 = ("at" : Str) then (Option.none : Option Str) else some c.1) = ns at pr
    have txts_pr : ∀ {H6 : Hp} {ys : List V} {ps : List Str}, Paired (fun v n => Tp H6 v (.text n)) ys ps → Tps H6 ys (ps.map NestedKey.text) := by
      intro H6 ys ps h
      induction h with
      | nil => exact .nil
      | cons r _ ih => exact .cons r ih
    have tns := txts_pr pr
    have hnl : ns.length ≤ 3 := by
      rw [← hns]
      exact Nat.le_trans (List.length_filterMap_le _ _) hLl
    have src6 := src5.sm f6
    obtain ⟨nDd, nDc⟩ := src5.nedF fD
    refine ⟨d, c, D, ns.map NestedKey.text, ys, rfl, src6, hD, tns, nDc, by rw [List.length_map]; omega, fun kb kx ks0 H7 dr7 src7 fkb hkb tkb pm => ?_⟩
    obtain ⟨ka, rfl, pka⟩ := perm_back unText_k pm
    obtain ⟨nkd, nkc⟩ := src6.nedF fkb
    refine ⟨d, c, 3, rfl, src7, by decide, fun n1 H8 dr8 src8 hn1 => ⟨_, rfl, ?_⟩⟩
    have hkb8 := dr8.lst nkd nkc hkb
    have tkb8 := Tps.ts dr8.ts _ _ tkb
    refine ⟨kb, kx, rfl, .inl (.inl hkb8), fun kl hkl => ?_⟩
    rw [cut_take]
    have f9 : Sm T H8 (upd H8 kl (.lst (kx.take n1))) := Sm.new hkl
    have h9 : (upd H8 kl (.lst (kx.take n1))) kl = some (.lst (kx.take n1)) := upd_same
    have tk9 : Tps (upd H8 kl (.lst (kx.take n1))) (kx.take n1) ((ka.take n1).map NestedKey.text) := by
      rw [List.map_take]
      exact (Tps.ts f9.ts _ _ tkb8).take _
    generalize upd H8 kl (.lst (kx.take n1)) = H9 at f9 h9 tk9
    generalize kx.take n1 = kx at h9 tk9
    have hkeys : ∀ n ∈ ka.take n1, n ∈ ns := fun n hn => pka.mem_iff.mp (List.mem_of_mem_take hn)
    have hkl3 : (ka.take n1).length ≤ 3 := by
      have := pka.length_eq
      rw [List.length_take]
      omega
    generalize ka.take n1 = keys at tk9 hkeys hkl3
    obtain ⟨nkld, nklc⟩ := src8.ned hkl
    have dr59 : Dr T d c H5 H9 := (((Dr.of f6).trans dr7).trans dr8).trans (Dr.of f9)
    have dr09 := dr05.trans dr59
    have src9 := src8.sm f9
    have h5' := dr59.lst nld nlc h5
    have tl9 := Tps.ts dr59.ts _ _ tl5
    intro p4 hp4
    have f10 : Sm T H9 (upd H9 p4 (.tup [V.str "what", V.str "text"])) := Sm.new hp4
    have t4 : Tp (upd H9 p4 (.tup [V.str "what", V.str "text"])) (.ref p4) (colK ("what", "text")) := tup_new hp4 (.cons (.str _) (.cons (.str _) .nil))
    generalize upd H9 p4 (.tup [V.str "what", V.str "text"]) = H10 at f10 t4
    refine in_l (neg := false) (.str _) rfl (f10.lst h9) (Tps.ts f10.ts _ _ tk9) (txts_atoms keys) ⟨decide (("who" : Str) ∈ keys), by simp, ?_⟩
    generalize hwh : (if decide (("who" : Str) ∈ keys) = true then ("who" : Str) else "by") = wh
    intro p5 hp5
    have f11 : Sm T H10 (upd H10 p5 (.tup [V.str wh, V.str "text"])) := Sm.new hp5
    have t5 : Tp (upd H10 p5 (.tup [V.str wh, V.str "text"])) (.ref p5) (colK (wh, "text")) := tup_new hp5 (.cons (.str _) (.cons (.str _) .nil))
    generalize upd H10 p5 (.tup [V.str wh, V.str "text"]) = H11 at f11 t5
    have f911 := f10.trans f11
    refine in_l (neg := false) (.str _) rfl (f911.lst h9) (Tps.ts f911.ts _ _ tk9) (txts_atoms keys) ⟨decide (("n" : Str) ∈ keys), by simp, ?_⟩
    generalize hnn : (if decide (("n" : Str) ∈ keys) = true then ("n" : Str) else "m") = nn
    intro p6 hp6
    have f12 : Sm T H11 (upd H11 p6 (.tup [V.str nn, V.str "number"])) := Sm.new hp6
    have t6 : Tp (upd H11 p6 (.tup [V.str nn, V.str "number"])) (.ref p6) (colK (nn, "number")) := tup_new hp6 (.cons (.str _) (.cons (.str _) .nil))
    generalize upd H11 p6 (.tup [V.str nn, V.str "number"]) = H12 at f12 t6
    intro p7 hp7
    have f13 : Sm T H12 (upd H12 p7 (.lst [.ref p4, .ref p5, .ref p6])) := Sm.new hp7
    have h13 : (upd H12 p7 (.lst [.ref p4, .ref p5, .ref p6])) p7 = some (.lst [.ref p4, .ref p5, .ref p6]) := upd_same
    obtain ⟨n7d, n7c⟩ := (src9.sm (f911.trans f12)).ned hp7
    generalize upd H12 p7 (.lst [.ref p4, .ref p5, .ref p6]) = H13 at f13 h13
    have f913 := (f911.trans f12).trans f13
    have src13 := src9.sm f913
    have tR13 : Tps H13 [.ref p4, .ref p5, .ref p6] (([("what", "text"), (wh, "text"), (nn, "number")] : List Col).map colK) := .cons (Tp.ts ((f11.trans f12).trans f13).ts _ _ t4) (.cons (Tp.ts (f12.trans f13).ts _ _ t5) (.cons (Tp.ts f13.ts _ _ t6) .nil))
    refine ⟨d, c, p7, _, _, rfl, src13, h13, tR13, n7c, by show 3 ≤ 50; decide, fun ra rx rs0 H14 dr14 src14 fra hra tra pm2 => ?_⟩
    obtain ⟨R, rfl, pR⟩ := perm_back unCol_k pm2
    obtain ⟨nrd, nrc⟩ := src13.nedF fra
    have hRl : R.length = 3 := pR.length_eq
    intro p8 hp8
    have f15 : Sm T H14 (upd H14 p8 (.lst [V.int 0, .int 1, .int 3, .int 8])) := Sm.new hp8
    have h15 : (upd H14 p8 (.lst [V.int 0, .int 1, .int 3, .int 8])) p8 = some (.lst [V.int 0, .int 1, .int 3, .int 8]) := upd_same
    obtain ⟨n8d, n8c⟩ := src14.ned hp8
    generalize upd H14 p8 (.lst [V.int 0, .int 1, .int 3, .int 8]) = H15 at f15 h15
    refine ⟨d, c, 4, rfl, src14.sm f15, by decide, fun n2 H16 dr16 src16 hn2 => ?_⟩
    have h16 := dr16.lst n8d n8c h15
    obtain ⟨back, hback⟩ : ∃ b : Int, ([V.int 0, .int 1, .int 3, .int 8] : List V)[n2]? = some (.int b) := by
      match n2, (show n2 < 4 by omega) with
      | 0, _ => exact ⟨_, rfl⟩
      | 1, _ => exact ⟨_, rfl⟩
      | 2, _ => exact ⟨_, rfl⟩
      | 3, _ => exact ⟨_, rfl⟩
    refine ⟨p8, _, (n2 : Int), .int back, rfl, rfl, .inl (.inl h16), atI_nat hback, ?_⟩
    intro p9 hp9
    have f17 : Sm T H16 (upd H16 p9 (.lst [V.int 0, .int 1, .int 4])) := Sm.new hp9
    have h17 : (upd H16 p9 (.lst [V.int 0, .int 1, .int 4])) p9 = some (.lst [V.int 0, .int 1, .int 4]) := upd_same
    obtain ⟨n9d, n9c⟩ := src16.ned hp9
    generalize upd H16 p9 (.lst [V.int 0, .int 1, .int 4]) = H17 at f17 h17
    refine ⟨d, c, 3, rfl, src16.sm f17, by decide, fun n3 H18 dr18 src18 hn3 => ?_⟩
    have h18 := dr18.lst n9d n9c h17
    obtain ⟨ahead, hahead⟩ : ∃ b : Int, ([V.int 0, .int 1, .int 4] : List V)[n3]? = some (.int b) := by
      match n3, (show n3 < 3 by omega) with
      | 0, _ => exact ⟨_, rfl⟩
      | 1, _ => exact ⟨_, rfl⟩
      | 2, _ => exact ⟨_, rfl⟩
    refine ⟨p9, _, (n3 : Int), .int ahead, rfl, rfl, .inl (.inl h18), atI_nat hahead, ?_⟩
    have dr1418 : Dr T d c H14 H18 := (((Dr.of f15).trans dr16).trans (Dr.of f17)).trans dr18
    have dr918 : Dr T d c H9 H18 := ((Dr.of f913).trans dr14).trans dr1418
    have dr018 := dr09.trans dr918
    have hL18 := dr918.lst nld nlc h5'
    have tL18 := Tps.ts dr918.ts _ _ tl9
    have hK18 := dr918.lst nkld nklc h9
    have tK18 := Tps.ts dr918.ts _ _ tk9
    have hR18 := dr1418.lst nrd nrc hra
    have tR18 := Tps.ts dr1418.ts _ _ tra
    generalize ([V.int 0, .int 1, .int 3, .int 8] : List V) = l4 at h15 h16 hback
    clear h15 h16 hback h17 h18 hahead dr16 dr18 f15 f17 src16 n8d n8c n9d n9c hp8 hp9 dr14 f13 h13 hp7 n7d n7c t4 t5 t6 tR13 hra tra f10 f11 f12 f913 f911 hp4 hp5 hp6 pm2
    -- the names of both sides
    refine lcLf (T := T) L (fun H v (c : Col) => Tp H v (colK c)) (fun _ H v (n : Str) => Tp H v (.text n)) (fun c => some c.1) (fun Q' k' => ?_) (by omega) (fun _ _ _ _ e t => Tp.ts e.ts _ _ t) (fun _ _ _ _ _ xb t => Tp.ts xb.1 _ _ t) (fun D i y q H6 hi e6 ty hD Qy Qn hy hnn => ?_) (fun D1 H19 ys1 fD1 f19 hD1 pr1 => ?_)
    · walk_at "rd2"
      exact k' la lx H18 (Sm.refl _ _) hL18 (tps_pr tL18)
    · refine gT2 ty fun v1 v2 t1 t2 => ?_
      walk_at "rd2"
      exact hy _ q.1 H6 rfl (Sm.refl _ _) t1
    rw [fm_map] at pr1
    have tn1 : Tps H19 ys1 (txts (colNames L)) := txts_pr pr1
    refine lcLf (T := T) R (fun H v (c : Col) => Tp H v (colK c)) (fun _ H v (n : Str) => Tp H v (.text n)) (fun c => some c.1) (fun Q' k' => ?_) (by omega) (fun _ _ _ _ e t => Tp.ts e.ts _ _ t) (fun _ _ _ _ _ xb t => Tp.ts xb.1 _ _ t) (fun D i y q H6 hi e6 ty hD Qy Qn hy hnn => ?_) (fun D2 H20 ys2 fD2 f20 hD2 pr2 => ?_)
    · walk_at "rd2"
      exact k' ra rx H19 (Sm.refl _ _) (f19.lst hR18) (tps_pr (Tps.ts f19.ts _ _ tR18))
    · refine gT2 ty fun v1 v2 t1 t2 => ?_
      walk_at "rd2"
      exact hy _ q.1 H6 rfl (Sm.refl _ _) t1
    rw [fm_map] at pr2
    have tn2 : Tps H20 ys2 (txts (colNames R)) := txts_pr pr2
    intro pp hpp
    have f21 : Sm T H20 (upd H20 pp (.tup [V.ref D1, V.ref D2])) := Sm.new hpp
    refine gP upd_same ?_
    generalize upd H20 pp (.tup [V.ref D1, V.ref D2]) = H21 at f21
    have f1821 := (f19.trans f20).trans f21
    have hD1' := (f20.trans f21).lst hD1
    have hD2' := f21.lst hD2
    have tn1' := Tps.ts (f20.trans f21).ts _ _ tn1
    have tn2' := Tps.ts f21.ts _ _ tn2
    have hK21 := f1821.lst hK18
    have tK21 := Tps.ts f1821.ts _ _ tK18
    have hkl : ∀ n ∈ keys, n ∈ colNames L := fun n hn => by
      have := hkeys n hn
      rw [← hns] at this
      obtain ⟨q, hq, he⟩ := List.mem_filterMap.mp this
      by_cases hqa : q.1 = ("at" : Str)
      · rw [if_pos hqa] at he; cases he
      · rw [if_neg hqa] at he
        cases he
        exact List.mem_map_of_mem hq
    have hkwn : ∀ n ∈ keys, n = ("who" : Str) ∨ n = ("n" : Str) := fun n hn => by
      have := hkeys n hn
      rw [← hns] at this
      obtain ⟨q, hq, he⟩ := List.mem_filterMap.mp this
      by_cases hqa : q.1 = ("at" : Str)
      · rw [if_pos hqa] at he; cases he
      · rw [if_neg hqa] at he
        cases he
        have := hL q hq
        simp only [allC, List.mem_cons, List.not_mem_nil, or_false] at this
        rcases this with rfl | rfl | rfl
        · exact .inl rfl
        · exact .inr rfl
        · exact absurd rfl hqa
    have hkr : ∀ n ∈ keys, n ∈ colNames R := fun n hn => by
      refine List.mem_map.mpr ?_
      rcases hkwn n hn with rfl | rfl
      · rw [decide_eq_true hn, if_pos rfl] at hwh
        exact ⟨(wh, "text"), pR.mem_iff.mpr (List.mem_cons_of_mem _ List.mem_cons_self), hwh.symm⟩
      · rw [decide_eq_true hn, if_pos rfl] at hnn
        exact ⟨(nn, "number"), pR.mem_iff.mpr (List.mem_cons_of_mem _ (List.mem_cons_of_mem _ List.mem_cons_self)), hnn.symm⟩
    have hnd : (colNames R).Nodup := by
      have p : (colNames R).Perm ["what", wh, nn] := pR.map _
      refine p.nodup_iff.mpr ?_
      rw [← hwh, ← hnn]
      cases decide (("who" : Str) ∈ keys) <;> cases decide (("n" : Str) ∈ keys) <;> decide +kernel
    have npr : ∀ {H6 : Hp} {ys : List V} {ns : List Nat}, Paired (fun v (n : Nat) => v = V.int (n : Int)) ys ns → Tps H6 ys (nums ns) := by
      intro H6 ys ns h
      induction h with
      | nil => exact .nil
      | cons r _ ih => rw [r]; exact .cons (.int _) ih
    walk_at "rd2"
    refine lcLf (T := T) keys (fun H v (n : Str) => Tp H v (.text n)) (fun _ _ v (n : Nat) => v = .int (n : Int)) (fun n => some (plc (colNames L) n)) (fun Q' k' => ?_) (by omega) (fun _ _ _ _ e t => Tp.ts e.ts _ _ t) (fun _ _ _ _ _ _ h => h) (fun D i x n H6 ha1 e tx hD Qy Qn hy hnn => ?_) (fun D6 H22 ys6 _ e22 hD6 pr6 => ?_)
    · walk_at "rd2"
      exact k' kl kx H21 (Sm.refl _ _) hK21 (tps_pr tK21)
    · walk_at "rd2"
      refine ⟨tyl (e.lst hD1'), ?_⟩
      refine index_l (e.lst hD1') (Tps.ts e.ts _ _ tn1') (txts_atoms _) tx rfl (List.mem_map.mpr ⟨n, hkl n (List.mem_of_getElem? ha1), rfl⟩) ?_
      exact hy _ _ H6 rfl (Sm.refl _ _) rfl
    rw [fm_map] at pr6
    walk_at "rd2"
    refine tuple_d (T := T) hD6 (npr pr6) fun v7 H23 e23 t7 => ?_
    walk_at "rd2"
    have e2123 := e22.trans e23
    refine lcLf (T := T) keys (fun H v (n : Str) => Tp H v (.text n)) (fun _ _ v (n : Nat) => v = .int (n : Int)) (fun n => some (plc (colNames R) n)) (fun Q' k' => ?_) (by omega) (fun _ _ _ _ e t => Tp.ts e.ts _ _ t) (fun _ _ _ _ _ _ h => h) (fun D i x n H6 ha1 e tx hD Qy Qn hy hnn => ?_) (fun D8 H24 ys8 _ e24 hD8 pr8 => ?_)
    · walk_at "rd2"
      exact k' kl kx H23 (Sm.refl _ _) (e2123.lst hK21) (tps_pr (Tps.ts e2123.ts _ _ tK21))
    · walk_at "rd2"
      have e3 := e2123.trans e
      refine ⟨tyl (e3.lst hD2'), ?_⟩
      refine index_l (e3.lst hD2') (Tps.ts e3.ts _ _ tn2') (txts_atoms _) tx rfl (List.mem_map.mpr ⟨n, hkr n (List.mem_of_getElem? ha1), rfl⟩) ?_
      exact hy _ _ H6 rfl (Sm.refl _ _) rfl
    rw [fm_map] at pr8
    walk_at "rd2"
    refine tuple_d (T := T) hD8 (npr pr8) fun v9 H25 e25 t9 => ?_
    walk_at "rd2"
    intro p10 hp10
    have f26 : Sm T H25 (upd H25 p10 (.tup [v7, v9])) := Sm.new hp10
    have t10 : Tp (upd H25 p10 (.tup [v7, v9])) (.ref p10) (.tup [.tup (nums (keys.map (plc (colNames L)))), .tup (nums (keys.map (plc (colNames R))))]) := tup_new hp10 (.cons (Tp.ts (e24.trans e25).ts _ _ t7) (.cons t9 .nil))
    generalize upd H25 p10 (.tup [v7, v9]) = H26 at f26 t10
    have e2126 := (e2123.trans (e24.trans e25)).trans f26
    have hD26 := e2126.lst hD2'
    have tD26 := Tps.ts e2126.ts _ _ tn2'
    have hK26 := e2126.lst hK21
    have tK26 := Tps.ts e2126.ts _ _ tK21
    refine lcR (T := T) 3 (fun _ _ v (n : Nat) => v = .int (n : Int)) (fun i => R[i]?.bind fun c => if c.1 ∈ keys then none else some i) (fun Q' k' => ?_) (by decide) (fun _ _ _ _ _ _ h => h) (fun D i H27 hi e27 hD Qy Qn hy hnn => ?_) (fun D11 H27 ys11 e27 hD11 pr11 => ?_)
    · walk_at "rd2"
      exact k' H26 (Sm.refl _ _)
    · walk_at "rd2"
      obtain ⟨q, hq⟩ : ∃ q, R[i]? = some q := ⟨_, List.getElem?_eq_getElem (by omega)⟩
      obtain ⟨v, hv, tv⟩ := tD26.get (i := i) (d := .text q.1) (by unfold txts colNames; rw [List.getElem?_map, List.getElem?_map, hq]; rfl)
      refine ⟨D2, ys2, (i : Int), v, rfl, rfl, .inl (.inl (e27.lst hD26)), atI_nat hv, ?_⟩
      refine in_l (neg := true) (Tp.ts e27.ts _ _ tv) rfl (e27.lst hK26) (Tps.ts e27.ts _ _ tK26) (txts_atoms keys) ⟨!decide (q.1 ∈ keys), by simp, ?_⟩
      by_cases hc : q.1 ∈ keys
      · rw [decide_eq_true hc]
        exact ifF rfl (hnn H27 (by rw [hq]; exact if_pos hc) (Sm.refl _ _))
      · rw [decide_eq_false hc]
        exact ifT rfl (hy _ i H27 (by rw [hq]; exact if_neg hc) (Sm.refl _ _) rfl)
    have t11 : Tps H27 ys11 (nums (restIx ⟨L, R, keys, back, ahead⟩)) := by
      have e : restIx ⟨L, R, keys, back, ahead⟩ = (List.range 3).filterMap fun i => R[i]?.bind fun c => if c.1 ∈ keys then none else some i := by
        unfold restIx
        rw [hRl]
      rw [e]
      exact npr pr11
    refine tuple_d (T := T) hD11 t11 fun v12 H28 e28 t12 => ?_
    intro p13 hp13
    have f29 : Sm T H28 (upd H28 p13 (.tup [v12, V.int back, V.int ahead])) := Sm.new hp13
    have t13 : Tp (upd H28 p13 (.tup [v12, V.int back, V.int ahead])) (.ref p13) (.tup [.tup (nums (restIx ⟨L, R, keys, back, ahead⟩)), .num back, .num ahead]) := tup_new hp13 (.cons t12 (.cons (.int _) (.cons (.int _) .nil)))
    generalize upd H28 p13 (.tup [v12, V.int back, V.int ahead]) = H29 at f29 t13
    have e2629 := (e27.trans e28).trans f29
    refine cat_d (T := T) (Tp.ts e2629.ts _ _ t10) t13 (by show 2 + 3 ≤ 100000; decide) fun v14 H30 e30 t14 => ?_
    have e1830 := f1821.trans ((e2126.trans e2629).trans e30)
    refine tuple_d (T := T) (e1830.lst hL18) (Tps.ts e1830.ts _ _ tL18) fun v15 H31 e31 t15 => ?_
    have e1831 := e1830.trans e31
    refine tuple_d (T := T) (e1831.lst hR18) (Tps.ts e1831.ts _ _ tR18) fun v16 H32 e32 t16 => ?_
    have e1832 := e1831.trans e32
    refine tuple_d (T := T) (e1832.lst hK18) (Tps.ts e1832.ts _ _ tK18) fun v17 H33 e33 t17 => ?_
    have e1833 := e1832.trans e33
    intro p18 hp18
    have f34 : Sm T H33 (upd H33 p18 (.lst [v15, v16, v17, V.int back, V.int ahead, v14])) := Sm.new hp18
    have e1834 := e1833.trans f34
    refine k p18 v15 v16 v17 v14 ⟨L, R, keys, back, ahead⟩ _ (dr018.trans (Dr.of e1834)) (src18.sm e1834) upd_same (Tp.ts ((e32.trans e33).trans f34).ts _ _ t15) (Tp.ts (e33.trans f34).ts _ _ t16) (Tp.ts f34.ts _ _ t17) (Tp.ts (((e31.trans e32).trans e33).trans f34).ts _ _ t14) ⟨⟨by show L.length ≤ 10; omega, by show R.length ≤ 10; omega, by show keys.length ≤ 10; omega⟩, hkl, hkr, hnd⟩
end K67
end
/-! ## K67P1 -/
section
set_option maxHeartbeats 4000000
/-! K67P1: the plain law of the weaving: whatever the marks let go, all pairs are made -/
namespace K67
open PySem PySem.Spec PyProof.Rows L2 LamX NdefX
/-- one side of what is woven -/
def sideE (s : Nat) (ps : List SE) : List En := ps.filterMap fun p => if p.1 = s then some p.2 else none
theorem allP_nilR (j : Jn) (L : List Row) : allP j L [] = [] := by
  unfold allP
  induction L with
  | nil => rfl
  | cons a L ih => rw [List.flatMap_cons, ih]; rfl
theorem allP_snocL (j : Jn) (L R : List Row) (r : Row) : allP j (L ++ [r]) R = allP j L R ++ (R.filter (meetB j r)).map (pairR j r) := by
  unfold allP
  rw [List.flatMap_append]
  simp
theorem allP_snocR (j : Jn) (R : List Row) (r : Row) : ∀ L : List Row, (allP j L (R ++ [r])).Perm (allP j L R ++ (L.filter fun o => meetB j o r).map fun o => pairR j o r)
  | [] => .refl _
  | a :: L => by
    have ih := allP_snocR j R r L
    unfold allP at ih ⊢
    rw [List.flatMap_cons, List.flatMap_cons, List.filter_append, List.map_append, List.filter_cons, List.filter_cons, List.filter_nil]
    by_cases c : meetB j a r = true
    · rw [if_pos c, if_pos c, List.map_cons, List.map_cons, List.map_nil, List.append_assoc, List.append_assoc]
      refine .append_left _ ?_
      refine .trans ?_ List.perm_middle.symm
      exact .cons _ ih
    · rw [if_neg c, if_neg c, List.map_nil, List.append_nil, List.append_assoc]
      exact .append_left _ ih
theorem filter_none {α : Type} {p : α → Bool} {l : List α} (h : ∀ a ∈ l, p a = false) : l.filter p = [] := List.filter_eq_nil_iff.mpr fun a ha => by rw [h a ha]; exact Bool.false_ne_true
/-- x holds the rows L and R, but those that can meet nothing from the mark m on -/
structure Kept (j : Jn) (m : Int) (x : Wv) (L R : List Row) : Prop where
  l : ∃ D, L.Perm (x.L ++ D) ∧ ∀ r ∈ D, r.t + j.ahead < m
  r : ∃ D, R.Perm (x.R ++ D) ∧ ∀ r ∈ D, r.t + j.back < m
  f : x.F.Perm (allP j L R)
theorem Kept.row0 {j : Jn} {m : Int} {x : Wv} {L R : List Row} {r : Row} (h : Kept j m x L R) (hr : m ≤ r.t) : Kept j m (x.step j (.row 0 r)) (L ++ [r]) R := by
  obtain ⟨⟨D, pl, hD⟩, ⟨E, pr, hE⟩, hf⟩ := h
  refine ⟨⟨D, ?_, hD⟩, ⟨E, pr, hE⟩, ?_⟩
  · show (L ++ [r]).Perm (r :: x.L ++ D)
    exact (List.perm_append_singleton _ _).trans (.cons _ pl)
  · show (x.F ++ (x.R.filter (meetB j r)).map (pairR j r)).Perm _
    rw [allP_snocL]
    refine hf.append (.map _ ?_)
    have := pr.filter (meetB j r)
    rw [List.filter_append, filter_none (l := E), List.append_nil] at this
    · exact this.symm
    · intro b hb
      have := hE b hb
      unfold meetB
      rw [decide_eq_false (p := r.t - j.back ≤ b.t) (by omega), Bool.false_and, Bool.and_false]
theorem Kept.row1 {j : Jn} {m : Int} {x : Wv} {L R : List Row} {r : Row} (h : Kept j m x L R) (hr : m ≤ r.t) : Kept j m (x.step j (.row 1 r)) L (R ++ [r]) := by
  obtain ⟨⟨D, pl, hD⟩, ⟨E, pr, hE⟩, hf⟩ := h
  refine ⟨⟨D, pl, hD⟩, ⟨E, ?_, hE⟩, ?_⟩
  · show (R ++ [r]).Perm (r :: x.R ++ E)
    exact (List.perm_append_singleton _ _).trans (.cons _ pr)
  · show (x.F ++ (x.L.filter (fun o => meetB j o r)).map (fun o => pairR j o r)).Perm _
    refine .trans ?_ (allP_snocR j R r L).symm
    refine hf.append (.map _ ?_)
    have := pl.filter (fun o => meetB j o r)
    rw [List.filter_append, filter_none (l := D), List.append_nil] at this
    · exact this.symm
    · intro b hb
      have := hD b hb
      unfold meetB
      rw [decide_eq_false (p := r.t ≤ b.t + j.ahead) (by omega), Bool.and_false, Bool.and_false]
theorem keepR_split (d m : Int) (hm : m < 1000000000) (l : List Row) : ∃ D, l.Perm (keepR d m l ++ D) ∧ ∀ r ∈ D, r.t + d < m := by
  refine ⟨l.filter fun r => !(decide (m ≤ r.t + d) && decide (m < 1000000000)), ?_, fun r hr => ?_⟩
  · exact (List.filter_append_perm _ l).symm
  · have := (List.mem_filter.mp hr).2
    rw [decide_eq_true hm, Bool.and_true, Bool.not_eq_true', decide_eq_false_iff_not] at this
    omega
theorem Kept.mark {j : Jn} {m m' : Int} {x : Wv} {L R : List Row} (h : Kept j m x L R) (hm : m ≤ m') (hl : m' < 1000000000) : Kept j m' (x.step j (.mark m')) L R := by
  obtain ⟨⟨D, pl, hD⟩, ⟨E, pr, hE⟩, hf⟩ := h
  obtain ⟨D2, p2, h2⟩ := keepR_split j.ahead m' hl x.L
  obtain ⟨E2, p3, h3⟩ := keepR_split j.back m' hl x.R
  refine ⟨⟨D2 ++ D, ?_, fun r hr => ?_⟩, ⟨E2 ++ E, ?_, fun r hr => ?_⟩, hf⟩
  · refine pl.trans ?_
    rw [← List.append_assoc]
    exact p2.append_right _
  · rcases List.mem_append.mp hr with hr | hr
    · exact h2 r hr
    · have := hD r hr; omega
  · refine pr.trans ?_
    rw [← List.append_assoc]
    exact p3.append_right _
  · rcases List.mem_append.mp hr with hr | hr
    · exact h3 r hr
    · have := hE r hr; omega
theorem sideE_cons (s : Nat) (p : SE) (ps : List SE) : sideE s (p :: ps) = (if p.1 = s then [p.2] else []) ++ sideE s ps := by
  unfold sideE
  rw [List.filterMap_cons]
  by_cases c : p.1 = s
  · rw [if_pos c, if_pos c]; rfl
  · rw [if_neg c, if_neg c]; rfl
theorem rowsOf_row (r : Row) (es : List En) : rowsOf (.row r :: es) = r :: rowsOf es := rfl
theorem rowsOf_mark (m : Int) (es : List En) : rowsOf (.mark m :: es) = rowsOf es := rfl
theorem all_snoc (j : Jn) (ts : List Th) (t : Th) : Wv.all j (ts ++ [t]) = (Wv.all j ts).step j t := by
  unfold Wv.all
  rw [List.foldl_append]
  rfl
/-- however the parts are woven, the join makes all pairs -/
theorem weave_go (j : Jn) : ∀ (ps : List SE) (x : Mk) (L R : List Row), (∀ p ∈ ps, p.1 ≤ 1) → (∀ p ∈ ps, ∀ m, p.2 = .mark m → m < 1000000000) → x.a < 1000000000 → x.b < 1000000000 → lateGo x.a (sideE 0 ps) → lateGo x.b (sideE 1 ps) → x.last ≤ x.a → x.last ≤ x.b →
    Kept j x.last (Wv.all j x.out) L R → (Wv.all j (ps.foldl Mk.step x).out).F.Perm (allP j (L ++ rowsOf (sideE 0 ps)) (R ++ rowsOf (sideE 1 ps)))
  | [], x, L, R, _, _, _, _, _, _, _, _, k => by
    show (Wv.all j x.out).F.Perm (allP j (L ++ []) (R ++ []))
    rw [List.append_nil, List.append_nil]
    exact k.f
  | (s, .row r) :: ps, x, L, R, hs, hm, h1, h2, g1, g2, l1, l2, k => by
    have hs0 : s ≤ 1 := hs _ List.mem_cons_self
    have ihs := fun p hp => hs p (List.mem_cons_of_mem _ hp)
    have ihm := fun p hp => hm p (List.mem_cons_of_mem _ hp)
    rw [sideE_cons] at g1 g2
    rw [sideE_cons, sideE_cons, List.foldl_cons]
    match s, hs0 with
    | 0, _ =>
      have g1 : x.a ≤ r.t ∧ lateGo x.a (sideE 0 ps) := g1
      have g2 : lateGo x.b (sideE 1 ps) := g2
      have := weave_go j ps (x.step (0, .row r)) (L ++ [r]) R ihs ihm h1 h2 g1.2 g2 l1 l2 (by
        show Kept j x.last (Wv.all j (x.out ++ [.row 0 r])) _ _
        rw [all_snoc]
        exact k.row0 (by omega))
      rw [List.append_assoc] at this
      exact this
    | 1, _ =>
      have g1 : lateGo x.a (sideE 0 ps) := g1
      have g2 : x.b ≤ r.t ∧ lateGo x.b (sideE 1 ps) := g2
      have := weave_go j ps (x.step (1, .row r)) L (R ++ [r]) ihs ihm h1 h2 g1 g2.2 l1 l2 (by
        show Kept j x.last (Wv.all j (x.out ++ [.row 1 r])) _ _
        rw [all_snoc]
        exact k.row1 (by omega))
      rw [List.append_assoc] at this
      exact this
  | (s, .mark m) :: ps, x, L, R, hs, hm, h1, h2, g1, g2, l1, l2, k => by
    have hs0 : s ≤ 1 := hs _ List.mem_cons_self
    have hm0 : m < 1000000000 := hm _ List.mem_cons_self m rfl
    have ihs := fun p hp => hs p (List.mem_cons_of_mem _ hp)
    have ihm := fun p hp => hm p (List.mem_cons_of_mem _ hp)
    rw [sideE_cons] at g1 g2
    rw [sideE_cons, sideE_cons, List.foldl_cons]
    have ea : lateGo (mkA x s m) (sideE 0 ps) ∧ lateGo (mkB x s m) (sideE 1 ps) ∧ x.a ≤ mkA x s m ∧ x.b ≤ mkB x s m ∧ mkA x s m < 1000000000 ∧ mkB x s m < 1000000000 ∧ rowsOf ((if s = 0 then [.mark m] else []) ++ sideE 0 ps) = rowsOf (sideE 0 ps) ∧ rowsOf ((if s = 1 then [.mark m] else []) ++ sideE 1 ps) = rowsOf (sideE 1 ps) := by
      match s, hs0 with
      | 0, _ =>
        refine ⟨g1, g2, ?_, Int.le_refl _, ?_, h2, rfl, rfl⟩
        · show x.a ≤ max x.a m; omega
        · show max x.a m < _; omega
      | 1, _ =>
        refine ⟨g1, g2, Int.le_refl _, ?_, h1, ?_, rfl, rfl⟩
        · show x.b ≤ max x.b m; omega
        · show max x.b m < _; omega
    obtain ⟨q1, q2, q3, q4, q5, q6, q7, q8⟩ := ea
    show (Wv.all j (ps.foldl Mk.step (x.step (s, .mark m))).out).F.Perm (allP j (L ++ rowsOf ((if s = 0 then [.mark m] else []) ++ sideE 0 ps)) (R ++ rowsOf ((if s = 1 then [.mark m] else []) ++ sideE 1 ps)))
    rw [q7, q8]
    by_cases c : x.last < min (mkA x s m) (mkB x s m)
    · rw [mk_pos c]
      refine weave_go j ps _ L R ihs ihm q5 q6 q1 q2 (by show min _ _ ≤ mkA x s m; omega) (by show min _ _ ≤ mkB x s m; omega) ?_
      show Kept j (min (mkA x s m) (mkB x s m)) (Wv.all j (x.out ++ [.mark (min (mkA x s m) (mkB x s m))])) L R
      rw [all_snoc]
      exact k.mark (by omega) (by omega)
    · rw [mk_neg c]
      exact weave_go j ps _ L R ihs ihm q5 q6 q1 q2 (by show x.last ≤ mkA x s m; omega) (by show x.last ≤ mkB x s m; omega) k
theorem woven_all {j : Jn} {ps : List SE} {px py : List En} (hs : ∀ p ∈ ps, p.1 ≤ 1) (hx : sideE 0 ps = px) (hy : sideE 1 ps = py) (nx : lateGo 0 px) (ny : lateGo 0 py) (hm : ∀ p ∈ ps, ∀ m, p.2 = .mark m → m < 1000000000) :
    (Wv.all j (things ps)).F.Perm (allP j (rowsOf px) (rowsOf py)) := by
  have := weave_go j ps ⟨0, 0, 0, []⟩ [] [] hs hm (by decide) (by decide) (by rw [hx]; exact nx) (by rw [hy]; exact ny) (Int.le_refl _) (Int.le_refl _) ⟨⟨[], .refl _, fun r hr => by cases hr⟩, ⟨[], .refl _, fun r hr => by cases hr⟩, .refl _⟩
  rw [hx, hy] at this
  exact this
/-- the rows of the things are the rows of the parts -/
theorem sideRows_things (s : Nat) : ∀ (ps : List SE) (x : Mk), sideRows s (ps.foldl Mk.step x).out = sideRows s x.out ++ rowsOf (sideE s ps)
  | [], x => (List.append_nil _).symm
  | (t, .row r) :: ps, x => by
    rw [List.foldl_cons, sideRows_things s ps, sideE_cons]
    show sideRows s (x.out ++ [.row t r]) ++ _ = _
    unfold sideRows
    rw [List.filterMap_append]
    by_cases c : t = s
    · subst c
      simp [rowsOf]
    · simp [rowsOf, c]
  | (t, .mark m) :: ps, x => by
    rw [List.foldl_cons, sideRows_things s ps, sideE_cons]
    have e : rowsOf ((if (t, En.mark m).1 = s then [(t, En.mark m).2] else []) ++ sideE s ps) = rowsOf (sideE s ps) := by
      by_cases c : t = s
      · rw [if_pos c]; rfl
      · rw [if_neg c]; rfl
    rw [e]
    congr 1
    by_cases c : x.last < min (mkA x t m) (mkB x t m)
    · rw [mk_pos c]
      show sideRows s (x.out ++ [.mark _]) = _
      unfold sideRows
      rw [List.filterMap_append]
      simp
    · rw [mk_neg c]
theorem things_rows (s : Nat) (ps : List SE) : sideRows s (things ps) = rowsOf (sideE s ps) := sideRows_things s ps _
theorem allP_perm {j : Jn} {L L' R R' : List Row} (h : L.Perm L') (h' : R.Perm R') : (allP j L R).Perm (allP j L' R') := by
  unfold allP
  refine (h.flatMap_right _).trans ?_
  clear h
  induction L' with
  | nil => exact .refl _
  | cons a l ih =>
    rw [List.flatMap_cons, List.flatMap_cons]
    exact ((h'.filter _).map _).append ih
theorem things_mem {P : Nat → Row → Prop} : ∀ (ps : List SE) (x : Mk), (∀ t ∈ x.out, ∀ s r, t = .row s r → P s r) → (∀ p ∈ ps, ∀ r, p.2 = .row r → P p.1 r) → ∀ t ∈ (ps.foldl Mk.step x).out, ∀ s r, t = .row s r → P s r
  | [], _, h, _ => h
  | (u, .row q) :: ps, x, h, hp => by
    rw [List.foldl_cons]
    refine things_mem ps _ (fun t ht s r e => ?_) fun p hp' => hp p (List.mem_cons_of_mem _ hp')
    rcases List.mem_append.mp ht with ht | ht
    · exact h t ht s r e
    · rw [List.mem_singleton.mp ht] at e
      cases e
      exact hp _ List.mem_cons_self _ rfl
  | (u, .mark m) :: ps, x, h, hp => by
    rw [List.foldl_cons]
    refine things_mem ps _ (fun t ht s r e => ?_) fun p hp' => hp p (List.mem_cons_of_mem _ hp')
    by_cases c : x.last < min (mkA x u m) (mkB x u m)
    · rw [mk_pos c] at ht
      rcases List.mem_append.mp ht with ht | ht
      · exact h t ht s r e
      · rw [List.mem_singleton.mp ht] at e
        cases e
    · rw [mk_neg c] at ht
      exact h t ht s r e
end K67
end
/-! ## K67P2 -/
section
set_option maxHeartbeats 4000000
/-! K67P2: the plain law of the orders: however rows are ranked, sorted they stand alike -/
namespace K67
open PySem PySem.Spec PyProof.Rows L2 LamX NdefX
abbrev LX (a b : List (Int ⊕ List Nat)) : Bool := PyProof.Rows.lexLt itemOrd a b
/-- values in order -/
def vlt : NestedKey → NestedKey → Bool
  | .none, .none => false
  | .none, _ => true
  | _, .none => false
  | .num i, .num j => decide (i < j)
  | .num _, _ => true
  | _, .num _ => false
  | .text a, .text b => itemLt (.inr a.cps.toList) (.inr b.cps.toList)
  | .text _, _ => true
  | .tup _, _ => false
theorem lx_same (p : Int ⊕ List Nat) (r t : List (Int ⊕ List Nat)) : LX (p :: r) (p :: t) = LX r t := lex_self (O := itemOrd) p r t
theorem lx_diff {p q : Int ⊕ List Nat} (h : p ≠ q) (r t : List (Int ⊕ List Nat)) : LX (p :: r) (q :: t) = itemLt p q := lex_diff (O := itemOrd) h
theorem lx_int {i j : Int} (h : i ≠ j) (r t : List (Int ⊕ List Nat)) : LX (.inl i :: r) (.inl j :: t) = decide (i < j) := lx_diff (fun z => h (Sum.inl.inj z)) r t
section
variable {d e : NestedKey}
theorem tk_rn (l : List (Int ⊕ List Nat)) : PySem.W.keyToks (rankK .none).data ++ l = .inl 1 :: .inl 0 :: .inl 0 :: l := rfl
theorem tk_ri (i : Int) (l : List (Int ⊕ List Nat)) : PySem.W.keyToks (rankK (.num i)).data ++ l = .inl 1 :: .inl 1 :: .inl 1 :: .inl i :: .inl 0 :: l := rfl
theorem tk_rs (x : Str) (l : List (Int ⊕ List Nat)) : PySem.W.keyToks (rankK (.text x)).data ++ l = .inl 1 :: .inl 2 :: .inl 1 :: .inr x.cps.toList :: .inl 0 :: l := rfl
theorem tk_ln (l : List (Int ⊕ List Nat)) : PySem.W.keyToks (lrankK .none).data ++ l = .inl 1 :: .inl 0 :: .inl 1 :: .inl 0 :: .inl 1 :: .inr ("" : Str).cps.toList :: .inl 0 :: l := rfl
theorem tk_li (i : Int) (l : List (Int ⊕ List Nat)) : PySem.W.keyToks (lrankK (.num i)).data ++ l = .inl 1 :: .inl 1 :: .inl 1 :: .inl i :: .inl 1 :: .inr ("" : Str).cps.toList :: .inl 0 :: l := rfl
theorem tk_ls (x : Str) (l : List (Int ⊕ List Nat)) : PySem.W.keyToks (lrankK (.text x)).data ++ l = .inl 1 :: .inl 2 :: .inl 1 :: .inl 0 :: .inl 1 :: .inr x.cps.toList :: .inl 0 :: l := rfl
theorem rank_lex (ha : atomB d = true) (hb : atomB e = true) (l m : List (Int ⊕ List Nat)) : LX (PySem.W.keyToks (rankK d).data ++ l) (PySem.W.keyToks (rankK e).data ++ m) = if d = e then LX l m else vlt d e := by
  cases d with
  | tup _ => cases ha
  | none =>
    cases e with
    | tup _ => cases hb
    | none => rw [tk_rn, tk_rn, lx_same, lx_same, lx_same, if_pos rfl]
    | num j => rw [tk_rn, tk_ri, lx_same, lx_int (by decide), if_neg (by simp)]; rfl
    | text y => rw [tk_rn, tk_rs, lx_same, lx_int (by decide), if_neg (by simp)]; rfl
  | num i =>
    cases e with
    | tup _ => cases hb
    | none => rw [tk_rn, tk_ri, lx_same, lx_int (by decide), if_neg (by simp)]; rfl
    | num j =>
      rw [tk_ri, tk_ri, lx_same, lx_same, lx_same]
      by_cases h : i = j
      · subst h; rw [lx_same, lx_same, if_pos rfl]
      · rw [lx_int h, if_neg (fun z => h (NestedKey.num.inj z))]; rfl
    | text y => rw [tk_ri, tk_rs, lx_same, lx_int (by decide), if_neg (by simp)]; rfl
  | text x =>
    cases e with
    | tup _ => cases hb
    | none => rw [tk_rn, tk_rs, lx_same, lx_int (by decide), if_neg (by simp)]; rfl
    | num j => rw [tk_rs, tk_ri, lx_same, lx_int (by decide), if_neg (by simp)]; rfl
    | text y =>
      rw [tk_rs, tk_rs, lx_same, lx_same, lx_same]
      by_cases h : x = y
      · subst h; rw [lx_same, lx_same, if_pos rfl]
      · rw [lx_diff (fun z => h (PySem.W.str_of_cps (Sum.inr.inj z))), if_neg (fun z => h (NestedKey.text.inj z))]; rfl
theorem lrank_lex (ha : atomB d = true) (hb : atomB e = true) (l m : List (Int ⊕ List Nat)) : LX (PySem.W.keyToks (lrankK d).data ++ l) (PySem.W.keyToks (lrankK e).data ++ m) = if d = e then LX l m else vlt d e := by
  cases d with
  | tup _ => cases ha
  | none =>
    cases e with
    | tup _ => cases hb
    | none => rw [tk_ln, tk_ln, lx_same, lx_same, lx_same, lx_same, lx_same, lx_same, lx_same, if_pos rfl]
    | num j => rw [tk_ln, tk_li, lx_same, lx_int (by decide), if_neg (by simp)]; rfl
    | text y => rw [tk_ln, tk_ls, lx_same, lx_int (by decide), if_neg (by simp)]; rfl
  | num i =>
    cases e with
    | tup _ => cases hb
    | none => rw [tk_ln, tk_li, lx_same, lx_int (by decide), if_neg (by simp)]; rfl
    | num j =>
      rw [tk_li, tk_li, lx_same, lx_same, lx_same]
      by_cases h : i = j
      · subst h; rw [lx_same, lx_same, lx_same, lx_same, if_pos rfl]
      · rw [lx_int h, if_neg (fun z => h (NestedKey.num.inj z))]; rfl
    | text y => rw [tk_li, tk_ls, lx_same, lx_int (by decide), if_neg (by simp)]; rfl
  | text x =>
    cases e with
    | tup _ => cases hb
    | none => rw [tk_ln, tk_ls, lx_same, lx_int (by decide), if_neg (by simp)]; rfl
    | num j => rw [tk_ls, tk_li, lx_same, lx_int (by decide), if_neg (by simp)]; rfl
    | text y =>
      rw [tk_ls, tk_ls, lx_same, lx_same, lx_same, lx_same, lx_same]
      by_cases h : x = y
      · subst h; rw [lx_same, lx_same, if_pos rfl]
      · rw [lx_diff (fun z => h (PySem.W.str_of_cps (Sum.inr.inj z))), if_neg (fun z => h (NestedKey.text.inj z))]; rfl
end
/-- lists of values in order -/
def vslt : List NestedKey → List NestedKey → Bool
  | [], [] => false
  | [], _ :: _ => true
  | _ :: _, [] => false
  | d :: ds, e :: es => if d = e then vslt ds es else vlt d e
theorem toks_cons (f : NestedKey → NestedKey) (d : NestedKey) (ds : List NestedKey) : PySem.W.keyToksAll (NestedKey.datas ((d :: ds).map f)) = .inl 1 :: (PySem.W.keyToks (f d).data ++ PySem.W.keyToksAll (NestedKey.datas (ds.map f))) := rfl
theorem toks_nil (f : NestedKey → NestedKey) : PySem.W.keyToksAll (NestedKey.datas (([] : List NestedKey).map f)) = [.inl 0] := rfl
theorem vals_lex {f : NestedKey → NestedKey} (hf : ∀ {d e : NestedKey}, atomB d = true → atomB e = true → ∀ l m, LX (PySem.W.keyToks (f d).data ++ l) (PySem.W.keyToks (f e).data ++ m) = if d = e then LX l m else vlt d e) :
    ∀ (ds es : List NestedKey) (l m : List (Int ⊕ List Nat)), ds.all atomB = true → es.all atomB = true → LX (PySem.W.keyToksAll (NestedKey.datas (ds.map f)) ++ l) (PySem.W.keyToksAll (NestedKey.datas (es.map f)) ++ m) = if ds = es then LX l m else vslt ds es
  | [], [], l, m, _, _ => by rw [toks_nil, if_pos rfl]; exact lx_same _ _ _
  | [], e :: es, l, m, _, _ => by
    rw [toks_nil, toks_cons, if_neg (by simp)]
    exact (lx_int (by decide) _ _).trans rfl
  | d :: ds, [], l, m, _, _ => by
    rw [toks_nil, toks_cons, if_neg (by simp)]
    exact (lx_int (by decide) _ _).trans rfl
  | d :: ds, e :: es, l, m, ha, hb => by
    rw [List.all_cons, Bool.and_eq_true] at ha hb
    rw [toks_cons, toks_cons, List.cons_append, List.cons_append, List.append_assoc, List.append_assoc, lx_same, hf ha.1 hb.1, vals_lex hf ds es l m ha.2 hb.2]
    by_cases h : d = e
    · subst h
      rw [if_pos rfl]
      by_cases h2 : ds = es
      · rw [if_pos h2, if_pos (by rw [h2])]
      · rw [if_neg h2, if_neg (fun z => h2 (List.cons.inj z).2)]
        show _ = if d = d then _ else _
        rw [if_pos rfl]
    · rw [if_neg h, if_neg (fun z => h (List.cons.inj z).1)]
      show _ = if d = e then _ else _
      rw [if_neg h]
/-- rows in order -/
def rlt (a b : Row) : Bool := if a.t = b.t then (if a.s = b.s then vslt a.vs b.vs else decide (a.s < b.s)) else decide (a.t < b.t)
theorem row_ext {a b : Row} (h1 : a.t = b.t) (h2 : a.s = b.s) (h3 : a.vs = b.vs) : a = b := by
  cases a; cases b; cases h1; cases h2; cases h3; rfl
theorem ranked_lex {f : NestedKey → NestedKey} (hf : ∀ {d e : NestedKey}, atomB d = true → atomB e = true → ∀ l m, LX (PySem.W.keyToks (f d).data ++ l) (PySem.W.keyToks (f e).data ++ m) = if d = e then LX l m else vlt d e) {a b : Row} (ha : a.vs.all atomB = true) (hb : b.vs.all atomB = true) (l m : List (Int ⊕ List Nat)) :
    LX (PySem.W.keyToks (NestedKey.tup [.num a.t, .num a.s, .tup (a.vs.map f)]).data ++ l) (PySem.W.keyToks (NestedKey.tup [.num b.t, .num b.s, .tup (b.vs.map f)]).data ++ m) = if a = b then LX l m else rlt a b := by
  have tk : ∀ (r : Row) (l : List (Int ⊕ List Nat)), PySem.W.keyToks (NestedKey.tup [.num r.t, .num r.s, .tup (r.vs.map f)]).data ++ l = .inl 1 :: .inl r.t :: .inl 1 :: .inl r.s :: .inl 1 :: (PySem.W.keyToksAll (NestedKey.datas (r.vs.map f)) ++ .inl 0 :: l) := fun r l => by
    show .inl 1 :: .inl r.t :: .inl 1 :: .inl r.s :: .inl 1 :: ((PySem.W.keyToksAll (NestedKey.datas (r.vs.map f)) ++ [.inl 0]) ++ l) = _
    rw [List.append_assoc]
    rfl
  rw [tk, tk, lx_same]
  unfold rlt
  by_cases h1 : a.t = b.t
  · rw [if_pos h1, h1, lx_same, lx_same]
    by_cases h2 : a.s = b.s
    · rw [if_pos h2, h2, lx_same, lx_same, vals_lex hf _ _ _ _ ha hb, lx_same]
      by_cases h3 : a.vs = b.vs
      · rw [if_pos h3, if_pos (row_ext h1 h2 h3)]
      · rw [if_neg h3, if_neg (fun z => h3 (by rw [z]))]
    · rw [if_neg h2, lx_int h2, if_neg (fun z => h2 (by rw [z]))]
  · rw [if_neg h1, lx_int h1, if_neg (fun z => h1 (by rw [z]))]
theorem given_lex {a b : Row} (ha : a.vs.all atomB = true) (hb : b.vs.all atomB = true) (l m : List (Int ⊕ List Nat)) : LX (PySem.W.keyToks (givenK a).data ++ l) (PySem.W.keyToks (givenK b).data ++ m) = if a = b then LX l m else rlt a b := ranked_lex (fun h1 h2 l m => rank_lex h1 h2 l m) ha hb l m
theorem lgiven_lex {a b : Row} (ha : a.vs.all atomB = true) (hb : b.vs.all atomB = true) (l m : List (Int ⊕ List Nat)) : LX (PySem.W.keyToks (lgivenK a).data ++ l) (PySem.W.keyToks (lgivenK b).data ++ m) = if a = b then LX l m else rlt a b := ranked_lex (fun h1 h2 l m => lrank_lex h1 h2 l m) ha hb l m
theorem vlt_total {d e : NestedKey} (ha : atomB d = true) (hb : atomB e = true) (h1 : vlt d e = false) (h2 : vlt e d = false) : d = e := by
  cases d with
  | tup _ => cases ha
  | none =>
    cases e with
    | none => rfl
    | _ => cases h1
  | num i =>
    cases e with
    | tup _ => cases hb
    | none => cases h2
    | num j =>
      have h1 := of_decide_eq_false h1
      have h2 := of_decide_eq_false h2
      rw [show i = j by omega]
    | text _ => cases h1
  | text x =>
    cases e with
    | tup _ => cases hb
    | none => cases h2
    | num j => cases h2
    | text y =>
      have := itemOrd.total (.inr x.cps.toList) (.inr y.cps.toList) h1 h2
      rw [PySem.W.str_of_cps (Sum.inr.inj this)]
theorem vlt_irr {d : NestedKey} (ha : atomB d = true) : vlt d d = false := by
  cases d with
  | tup _ => cases ha
  | none => rfl
  | num i => exact decide_eq_false (by omega)
  | text x => exact itemOrd.irrefl (.inr x.cps.toList)
theorem vslt_total : ∀ {ds es : List NestedKey}, ds.all atomB = true → es.all atomB = true → vslt ds es = false → vslt es ds = false → ds = es
  | [], [], _, _, _, _ => rfl
  | [], _ :: _, _, _, h, _ => by cases h
  | _ :: _, [], _, _, _, h => by cases h
  | d :: ds, e :: es, ha, hb, h1, h2 => by
    rw [List.all_cons, Bool.and_eq_true] at ha hb
    have h1 : (if d = e then vslt ds es else vlt d e) = false := h1
    have h2 : (if e = d then vslt es ds else vlt e d) = false := h2
    by_cases h : d = e
    · subst h
      rw [if_pos rfl] at h1 h2
      rw [vslt_total ha.2 hb.2 h1 h2]
    · rw [if_neg h] at h1
      rw [if_neg (Ne.symm h)] at h2
      exact absurd (vlt_total ha.1 hb.1 h1 h2) h
theorem vslt_irr : ∀ ds : List NestedKey, vslt ds ds = false
  | [] => rfl
  | d :: ds => by
    show (if d = d then vslt ds ds else vlt d d) = false
    rw [if_pos rfl, vslt_irr ds]
theorem rlt_irr (a : Row) : rlt a a = false := by
  unfold rlt
  rw [if_pos rfl, if_pos rfl, vslt_irr]
theorem rlt_total {a b : Row} (ha : a.vs.all atomB = true) (hb : b.vs.all atomB = true) (h1 : rlt a b = false) (h2 : rlt b a = false) : a = b := by
  unfold rlt at h1 h2
  by_cases ht : a.t = b.t
  · rw [if_pos ht] at h1
    rw [if_pos ht.symm] at h2
    by_cases hs : a.s = b.s
    · rw [if_pos hs] at h1
      rw [if_pos hs.symm] at h2
      exact row_ext ht hs (vslt_total ha hb h1 h2)
    · rw [if_neg hs] at h1
      rw [if_neg (Ne.symm hs)] at h2
      have h1 := of_decide_eq_false h1
      have h2 := of_decide_eq_false h2
      omega
  · rw [if_neg ht] at h1
    rw [if_neg (Ne.symm ht)] at h2
    have h1 := of_decide_eq_false h1
    have h2 := of_decide_eq_false h2
    omega
/-- rows of plain values -/
def Atoms (l : List Row) : Prop := ∀ r ∈ l, r.vs.all atomB = true
abbrev leG : Row → Row → Bool := PySem.W.dataLe false fun a => (givenK a).data
abbrev leL : Row → Row → Bool := PySem.W.dataLe false fun a => (lgivenK a).data
abbrev leM : PRw → PRw → Bool := PySem.W.dataLe false fun p => (lamK p).data
theorem leG_eq {a b : Row} (ha : a.vs.all atomB = true) (hb : b.vs.all atomB = true) : leG a b = !rlt b a := by
  show (!LX (PySem.W.keyToks (givenK b).data) (PySem.W.keyToks (givenK a).data)) = _
  have := given_lex hb ha [] []
  rw [List.append_nil, List.append_nil] at this
  rw [this]
  by_cases h : b = a
  · rw [if_pos h, h, rlt_irr]; rfl
  · rw [if_neg h]
theorem leL_eq {a b : Row} (ha : a.vs.all atomB = true) (hb : b.vs.all atomB = true) : leL a b = !rlt b a := by
  show (!LX (PySem.W.keyToks (lgivenK b).data) (PySem.W.keyToks (lgivenK a).data)) = _
  have := lgiven_lex hb ha [] []
  rw [List.append_nil, List.append_nil] at this
  rw [this]
  by_cases h : b = a
  · rw [if_pos h, h, rlt_irr]; rfl
  · rw [if_neg h]
theorem leM_row {p q : PRw} (ha : p.1.vs.all atomB = true) (hb : q.1.vs.all atomB = true) (h : leM p q = true) : rlt q.1 p.1 = false := by
  have tk : ∀ p : PRw, ∃ l, PySem.W.keyToks (lamK p).data = .inl 1 :: (PySem.W.keyToks (givenK p.1).data ++ l) := fun p => ⟨_, rfl⟩
  obtain ⟨l, hl⟩ := tk p
  obtain ⟨m, hm⟩ := tk q
  have h : (!LX (PySem.W.keyToks (lamK q).data) (PySem.W.keyToks (lamK p).data)) = true := h
  rw [hl, hm, lx_same, given_lex hb ha, Bool.not_eq_true'] at h
  by_cases e : q.1 = p.1
  · rw [e, rlt_irr]
  · rw [if_neg e] at h
    exact h
theorem le_tot {β : Type} (k : β → PyData) : PySem.W.TotalLe (PySem.W.dataLe false k) := PySem.W.sortLe_total _ _ _
/-- a list of rows in order is the law's sorting of any such list -/
theorem in_order_eq {l m : List Row} (h : l.Perm m) (ha : Atoms m) (hs : l.Pairwise fun a b => rlt b a = false) : l = m.mergeSort leL := by
  refine List.Perm.eq_of_pairwise (le := fun a b => rlt b a = false) (fun a b h1 h2 h3 h4 => ?_) hs ?_ (h.trans (List.mergeSort_perm m leL).symm)
  · exact rlt_total (ha a (h.mem_iff.mp h1)) (ha b ((List.mergeSort_perm m leL).mem_iff.mp h2)) h4 h3
  · have := PySem.W.sort_pairwise (le_tot _) (le := leL) m
    refine List.Pairwise.imp_of_mem ?_ this
    intro a b h1 h2 h3
    rw [leL_eq (ha a ((List.mergeSort_perm m leL).mem_iff.mp h1)) (ha b ((List.mergeSort_perm m leL).mem_iff.mp h2)), Bool.not_eq_true'] at h3
    exact h3
theorem sortG_eq {l m : List Row} (h : l.Perm m) (ha : Atoms m) : l.mergeSort leG = m.mergeSort leL := by
  have p := (List.mergeSort_perm l leG).trans h
  refine in_order_eq p ha ?_
  refine List.Pairwise.imp_of_mem ?_ (PySem.W.sort_pairwise (le_tot _) (le := leG) l)
  intro a b h1 h2 h3
  rw [leG_eq (ha a (p.mem_iff.mp h1)) (ha b (p.mem_iff.mp h2)), Bool.not_eq_true'] at h3
  exact h3
theorem sortL_eq {l m : List Row} (h : l.Perm m) (ha : Atoms m) : l.mergeSort leL = m.mergeSort leL := by
  have p := (List.mergeSort_perm l leL).trans h
  refine in_order_eq p ha ?_
  refine List.Pairwise.imp_of_mem ?_ (PySem.W.sort_pairwise (le_tot _) (le := leL) l)
  intro a b h1 h2 h3
  rw [leL_eq (ha a (p.mem_iff.mp h1)) (ha b (p.mem_iff.mp h2)), Bool.not_eq_true'] at h3
  exact h3
theorem sortM_eq {l : List PRw} {m : List Row} (h : (l.map (·.1)).Perm m) (ha : Atoms m) : (l.mergeSort leM).map (·.1) = m.mergeSort leL := by
  have p : ((l.mergeSort leM).map (·.1)).Perm m := ((List.mergeSort_perm l leM).map _).trans h
  refine in_order_eq p ha ?_
  refine List.pairwise_map.mpr ?_
  refine List.Pairwise.imp_of_mem ?_ (PySem.W.sort_pairwise (le_tot _) (le := leM) l)
  intro a b h1 h2 h3
  exact leM_row (ha a.1 (p.mem_iff.mp (List.mem_map_of_mem h1))) (ha b.1 (p.mem_iff.mp (List.mem_map_of_mem h2))) h3
end K67
end
/-! ## K67L9 -/
section
set_option maxHeartbeats 4000000
/-! K67L9: two parts woven -/
namespace K67
open PySem PySem.Spec PyProof.Rows L2 LamX NdefX
local macro_rules | `(tactic| walk_at "sm") => `(tactic| first | assumption | exact Sm.refl _ _ | (refine Sm.trans ?_ (by assumption); walk_at "sm"))
local macro_rules | `(tactic| walk_at "ts") => `(tactic| first | assumption | exact TS.refl _ | (refine TS.trans ?_ (by assumption); walk_at "ts") | (refine TS.trans ?_ (Sm.ts (by assumption)); walk_at "ts"))
local macro_rules | `(tactic| walk_at "tp") => `(tactic| first | assumption | exact Tp.int _ | exact Tp.str _ | exact Tp.non | (refine Tp.ts (H := ?_) ?_ _ _ (by assumption); walk_at "ts"))
local macro_rules | `(tactic| walk_at "tps") => `(tactic| first | assumption | exact Tps.nil | (refine Tps.cons ?_ ?_; · walk_at "tp"; · walk_at "tps") | (refine Tps.ts (H := ?_) ?_ _ _ (by assumption); walk_at "ts"))
local macro_rules | `(tactic| walk_at "rd") => `(tactic| try simp only [rMax2, and_assoc, tYes, tSeq, tIfS, tRet, tNext, tTest, tB, tOp, tUn, tVar, tC, tTup, tLst, tCons, tNil, tIf, tCB, tCall, tBM, tBM0, tAsg, gName, gCons, gNil, gSub, tDrop, tPar, tPar3, tAug, tAnd, tOr, tNot, tAndV, tOrV, tNotV, tChain, tSl, tPart, tNoPart, rI0, rI, rU, rEq, rNe, L2.start, wipe, sz0, sz1, sz2, sz3, sz4, sz5, sz6, List.map_cons, List.map_nil, List.length_cons, List.length_nil, List.cons_append, List.nil_append, List.append_nil, List.getElem?_cons_zero, List.getElem?_cons_succ, List.set_cons_zero, List.set_cons_succ, List.replicate_zero, List.replicate_succ, Option.some.injEq, V.bl.injEq, V.int.injEq, V.str.injEq, List.cons.injEq, and_true, true_and, exists_eq_left', exists_eq_left, exists_eq', exists_eq, exists_and_left, Nat.reduceSub, Nat.reduceAdd, Nat.reduceLeDiff, decide_true, decide_false, if_true, if_false, Bool.false_eq_true, reduceIte])
local macro_rules | `(tactic| walk_at "rd2") => `(tactic| try simp only [tDGet, sDPut, tDNewK, tNNew, tNGet2, tNSetd, tNGet, sNPut, tTupF, tCKw, tDead, sDead, tDispN, tPairs, StX.tStar, rNeDN, rNeDN2, rMax2, and_assoc, tYes, tSeq, tIfS, tRet, tNext, tTest, tB, tOp, tUn, tVar, tC, tTup, tLst, tCons, tNil, tIf, tCB, tCall, tBM, tBM0, tAsg, gName, gCons, gNil, gSub, tDrop, tPar, tPar3, tAug, tAnd, tOr, tNot, tAndV, tOrV, tNotV, tChain, tSl, tPart, tNoPart, rI0, rI, rU, rEq, rNe, L2.start, wipe, sz0, sz1, sz2, sz3, sz4, sz5, sz6, List.map_cons, List.map_nil, List.length_cons, List.length_nil, List.cons_append, List.nil_append, List.append_nil, List.getElem?_cons_zero, List.getElem?_cons_succ, List.set_cons_zero, List.set_cons_succ, List.replicate_zero, List.replicate_succ, Option.some.injEq, V.bl.injEq, V.int.injEq, V.str.injEq, List.cons.injEq, and_true, true_and, exists_eq_left', exists_eq_left, exists_eq', exists_eq, exists_and_left, Nat.reduceSub, Nat.reduceAdd, Nat.reduceLeDiff, decide_true, decide_false, if_true, if_false, Bool.false_eq_true, reduceIte])

theorem ixN_at {n j : Nat} (hj : j < n) : ixN n (j : Int) = some j := by
  unfold ixN
  rw [if_pos (by omega), if_pos (by omega), Int.toNat_natCast]
theorem depth_en {e : En} (h : EnOk e) : e.k.depth ≤ 2 := by
  cases e with
  | mark m => exact Nat.le_succ 1
  | row r =>
    have : NestedKey.depthAll r.vs = 0 := depth_atoms h.1
    show max 0 (max 0 (max 0 (max (NestedKey.depthAll r.vs + 1) 0))) + 1 ≤ 2
    omega
theorem depth_ens {es : List En} (h : ∀ e ∈ es, EnOk e) : NestedKey.depthAll (es.map En.k) ≤ 2 := depth_le_all fun d hd => by
  obtain ⟨e, he, rfl⟩ := List.mem_map.mp hd
  exact depth_en (h e he)
section
variable (T : List (Addr × Str))
def sp_weave : Sp := fun vs H Q _ => ∃ (d c a : Addr) (v0 v1 : V) (px py : List En), vs = [.ref d, .ref a] ∧ Src H d c ∧ H a = some (.lst [v0, v1]) ∧ Tp H v0 (partK px) ∧ Tp H v1 (partK py) ∧ (∀ e ∈ px, EnOk e) ∧ (∀ e ∈ py, EnOk e) ∧ px.length ≤ 100 ∧ py.length ≤ 100 ∧
  ∀ v (ps : List SE) H', Dr T d c H H' → Src H' d c → LsK H' v (ps.map SE.k) → (∀ p ∈ ps, p.1 ≤ 1) → sideE 0 ps = px → sideE 1 ps = py → ps.length = px.length + py.length → Q v H'
end
/-- a list of entries at a new address -/
def LsF (H0 : Hp) (D : Addr) (H : Hp) (v : V) (es : List En) : Prop := ∃ a xs, v = .ref a ∧ a ≠ D ∧ Fresh H0 a ∧ H a = some (.lst xs) ∧ Tps H xs (es.map En.k)
theorem lsf_xb {H0 : Hp} {D : Addr} {H H' : Hp} {v : V} {l : List En} (xb : XBut D H H') (h : LsF H0 D H v l) : LsF H0 D H' v l := let ⟨a, xs, e, n, f, ha, t⟩ := h
  ⟨a, xs, e, n, f, xb.2 a _ n ha (fun ps z => by cases z), Tps.ts xb.1 _ _ t⟩
structure WeI (T : List (Addr × Str)) (d c : Addr) (px py : List En) (H : Hp) (l fa : Addr) (n : Nat) (H' : Hp) (a0 a1 : Addr) (x0 x1 xs : List V) (e0 e1 : List En) (ps : List SE) : Prop where
  dr : Dr T d c H H'
  src : Src H' d c
  nfl : fa ≠ l
  n0 : a0 ≠ l ∧ a0 ≠ fa ∧ a0 ≠ d ∧ a0 ≠ c
  n1 : a1 ≠ l ∧ a1 ≠ fa ∧ a1 ≠ d ∧ a1 ≠ c
  hl : H' l = some (.lst [.ref a0, .ref a1])
  h0 : H' a0 = some (.lst x0)
  h1 : H' a1 = some (.lst x1)
  hf : H' fa = some (.lst xs)
  t0 : Tps H' x0 (e0.map En.k)
  t1 : Tps H' x1 (e1.map En.k)
  tf : Tps H' xs (ps.map SE.k)
  s0 : sideE 0 ps ++ e0 = px
  s1 : sideE 1 ps ++ e1 = py
  sl : ∀ p ∈ ps, p.1 ≤ 1
  hn : e0.length + e1.length = n
  pn : ps.length + n = px.length + py.length
section
variable {T : List (Addr × Str)} {d c : Addr} {px py : List En} {H : Hp} {l fa : Addr} {n : Nat} {H' H2 : Hp} {a0 a1 : Addr} {x0 x1 xs : List V} {e0 e1 : List En} {ps : List SE}
theorem WeI.sm (e : Sm T H' H2) (I : WeI T d c px py H l fa n H' a0 a1 x0 x1 xs e0 e1 ps) : WeI T d c px py H l fa n H2 a0 a1 x0 x1 xs e0 e1 ps :=
  ⟨I.dr.trans (Dr.of e), I.src.sm e, I.nfl, I.n0, I.n1, e.lst I.hl, e.lst I.h0, e.lst I.h1, e.lst I.hf, Tps.ts e.ts _ _ I.t0, Tps.ts e.ts _ _ I.t1, Tps.ts e.ts _ _ I.tf, I.s0, I.s1, I.sl, I.hn, I.pn⟩
theorem WeI.drw (e : Dr T d c H' H2) (s : Src H2 d c) (h1 : l ≠ d) (h2 : l ≠ c) (h3 : fa ≠ d) (h4 : fa ≠ c) (I : WeI T d c px py H l fa n H' a0 a1 x0 x1 xs e0 e1 ps) : WeI T d c px py H l fa n H2 a0 a1 x0 x1 xs e0 e1 ps :=
  ⟨I.dr.trans e, s, I.nfl, I.n0, I.n1, e.lst h1 h2 I.hl, e.lst I.n0.2.2.1 I.n0.2.2.2 I.h0, e.lst I.n1.2.2.1 I.n1.2.2.2 I.h1, e.lst h3 h4 I.hf, Tps.ts e.ts _ _ I.t0, Tps.ts e.ts _ _ I.t1, Tps.ts e.ts _ _ I.tf, I.s0, I.s1, I.sl, I.hn, I.pn⟩
end
def WeJ (T : List (Addr × Str)) (d c : Addr) (px py : List En) (H : Hp) (l fa : Addr) (n : Nat) (H' : Hp) : Prop := ∃ a0 a1 x0 x1 xs e0 e1 ps, WeI T d c px py H l fa n H' a0 a1 x0 x1 xs e0 e1 ps
variable {P : Program} {w : World} {K : PySem.W.Frag} {mg : Str → Option Value} {base : Heap} {T : List (Addr × Str)} {f : Addr} {fd : FuncData}
abbrev N__law_weave : List Str := ["_law_source", "_law_parts", "_law_left", "_law_found", "_law_side", "_law_part"]
theorem sc__law_weave : FnScope N__law_weave ["_law_source", "_law_parts"] (defScope s__law_weave) := ⟨rfl, rfl, rfl, by decide +kernel, rfl, by decide +kernel, by decide +kernel⟩
theorem ok__law_weave (B : Bs mg) (D__law_pick : Df P w K mg base "_law_pick" 1 ["_law_source", "_law_most"] (sp_pick T)) (hg : mg "_law_weave" = some (.ref f)) (F : FnP K "_law_weave" s__law_weave f fd) : Df P w K mg base "_law_weave" 2 ["_law_source", "_law_parts"] (sp_weave T) := by
  refine df_mk hg F sc__law_weave (fun vs H Q E h => ?_) (fun _ _ _ _ _ _ us hl => match us, hl with | [_, _], _ => rfl) (fun cdv A outer s H vs Q E hr h => ?_)
  · obtain ⟨_, _, _, _, _, _, _, rfl, _⟩ := h
    rfl
  · obtain ⟨d, c, a, v0, v1, px, py, rfl, src, ha, t0, t1, okx, oky, lx, ly, k⟩ := h
    refine ⟨_,
      (pss_cons (ps_par (i := 2) (j := 3) (by rfl) sc__law_weave.nd rfl rfl (by decide) rfl rfl (pa_cons (pe_lc (own := [("_law_part", 5)]) (by rfl) sc__law_weave.nd (pi_listK (K := K) rfl (pv 1)) (blkOk_by (N := N__law_weave) (sc := defScope s__law_weave) (by decide +kernel)) (fun _ _ _ _ _ => (pg_name (i := 5) sc__law_weave.nd rfl (by first | exact Or.inl rfl | exact Or.inr rfl))) (fun _ _ _ _ _ => pts_nil) (fun _ _ _ _ _ => (pe_callTy (listOfK (K := K) rfl) (by rfl) B.list_ (by decide +kernel) (pa_cons (pv 5) pa_nil)))) (pa_cons (pe_lst pa_nil) pa_nil)) (by rfl))
    (pss_cons (ps_while PassesOwn.never (pt_cmpR (op_neLLK hr.units) (pv 2) (pe_lst (pa_cons (pe_lst pa_nil) (pa_cons (pe_lst pa_nil) pa_nil))) (nomark _))
    (pss_cons (ps_set (i := 4) sc__law_weave.nd rfl (by first | exact Or.inl rfl | exact Or.inr rfl) (pe_df D__law_pick hr (pa_cons (pv 0) (pa_cons pe_int pa_nil))))
    (pss_cons (ps_set (i := 4) sc__law_weave.nd rfl (by first | exact Or.inl rfl | exact Or.inr rfl) (pe_ifExp (pt_cmpR (op_neLK hr.units) (pe_ix (ix_listK (K := K) rfl) (pv 2) (pv 4) (fun _ _ => rfl)) (pe_lst pa_nil) (nomark _)) (pv 4) (pe_op op_sub pe_int (pv 4))))
    (pss_cons (ps_expr (pe_bmK (K := K) rfl PySem.F.plainAttrs_list PySem.F.slot_list_append PySem.F.type_list_append mt_append (pv 3) (pa_cons (pe_tup (pa_cons (pv 4) (pa_cons (pe_ix (ix_listK (K := K) rfl) (pe_ix (ix_listK (K := K) rfl) (pv 2) (pv 4) (fun _ _ => rfl)) pe_int (fun _ _ => rfl)) pa_nil))) pa_nil)))
    (pss_one (ps_asg (pe_slice (sl_listK (K := K) rfl) (pe_ix (ix_listK (K := K) rfl) (pv 2) (pv 4) (fun _ _ => rfl)) (po_some pe_int) po_none) (pg_sub (pv 2) (pv 4) set_list)))))))
    (pss_one (ps_ret (pv 3)))))
      , ?_⟩
    walk_at "rd2"
    refine lcLf (T := T) [px, py] (fun H v (es : List En) => Tp H v (partK es)) (LsF H) (fun es => some es) (fun Q' k' => ?_) (by show 2 ≤ 100000; decide) (fun _ _ _ _ e t => Tp.ts e.ts _ _ t) (fun _ _ _ _ _ xb t => lsf_xb xb t) (fun D i y es H6 hi e6 ty hD Qy Qn hy hnn => ?_) (fun D H6 ys fD f6 hD pr => ?_)
    · walk_at "rd2"
      exact k' a [v0, v1] H (Sm.refl _ _) ha (.cons t0 (.cons t1 .nil))
    · walk_at "rd2"
      refine list_t (T := T) ty fun l xs H7 hl e7 h7 t7 => ?_
      refine hy _ es H7 rfl e7 ⟨l, xs, rfl, fun z => ?_, fresh_of e6 hl, h7, t7⟩
      obtain ⟨ys, hD⟩ := hD
      rw [z, hD] at hl
      cases hl
    cases pr with
    | cons r0 pr =>
      cases pr with
      | cons r1 pr =>
        cases pr
        obtain ⟨a0, x0, rfl, na0, fa0, ha0, ta0⟩ := r0
        obtain ⟨a1, x1, rfl, na1, fa1, ha1, ta1⟩ := r1
        intro fa hfa
        have f7 : Sm T H6 (upd H6 fa (.lst [])) := Sm.new hfa
        have h7 : (upd H6 fa (.lst [])) fa = some (.lst []) := upd_same
        have ffa : Fresh H fa := fresh_of f6 hfa
        obtain ⟨nDd, nDc⟩ := src.nedF fD
        obtain ⟨nfd, nfc⟩ := src.nedF ffa
        obtain ⟨n0d, n0c⟩ := src.nedF fa0
        obtain ⟨n1d, n1c⟩ := src.nedF fa1
        have nfD : fa ≠ D := fun z => by rw [z, hD] at hfa; cases hfa
        have n0f : a0 ≠ fa := fun z => by rw [← z, ha0] at hfa; cases hfa
        have n1f : a1 ≠ fa := fun z => by rw [← z, ha1] at hfa; cases hfa
        have f67 := f6.trans f7
        have init : WeJ T d c px py H D fa (px.length + py.length) (upd H6 fa (.lst [])) := ⟨a0, a1, x0, x1, [], px, py, [], Dr.of f67, src.sm f67, nfD, ⟨na0, n0f, n0d, n0c⟩, ⟨na1, n1f, n1d, n1c⟩, f7.lst hD, f7.lst ha0, f7.lst ha1, h7, Tps.ts f7.ts _ _ ta0, Tps.ts f7.ts _ _ ta1, .nil, rfl, rfl, fun p hp => (by cases hp), rfl, Nat.zero_add _⟩
        generalize upd H6 fa (.lst []) = H7 at init
        refine ⟨fun n σ' H' => (∃ z4 z5, σ' = [some (.ref d), some (.ref a), some (.ref D), some (.ref fa), z4, z5]) ∧ WeJ T d c px py H D fa n H', ⟨_, ⟨_, _, rfl⟩, init⟩, ?_⟩
        rintro n σ' H' ⟨⟨z4, z5, rfl⟩, a0, a1, x0, x1, xs, e0, e1, ps, I⟩
        walk_at "rd2"
        intro p1 hp1
        have g1 : Sm T H' (upd H' p1 (.lst [])) := Sm.new hp1
        have k1 : (upd H' p1 (.lst [])) p1 = some (.lst []) := upd_same
        generalize upd H' p1 (.lst []) = G1 at g1 k1
        intro p2 hp2
        have g2 : Sm T G1 (upd G1 p2 (.lst [])) := Sm.new hp2
        have k2 : (upd G1 p2 (.lst [])) p2 = some (.lst []) := upd_same
        generalize upd G1 p2 (.lst []) = G2 at g2 k2
        intro p3 hp3
        have g3 : Sm T G2 (upd G2 p3 (.lst [.ref p1, .ref p2])) := Sm.new hp3
        have k3 : (upd G2 p3 (.lst [.ref p1, .ref p2])) p3 = some (.lst [.ref p1, .ref p2]) := upd_same
        generalize upd G2 p3 (.lst [.ref p1, .ref p2]) = G3 at g3 k3
        have g13 := (g1.trans g2).trans g3
        have d0 : ∀ ds ∈ [e0.map En.k, e1.map En.k], NestedKey.depthAll ds ≤ 50 := fun ds hds => by
          have ok0 : ∀ e ∈ e0, EnOk e := fun e he => okx e (by rw [← I.s0]; exact List.mem_append_right _ he)
          have ok1 : ∀ e ∈ e1, EnOk e := fun e he => oky e (by rw [← I.s1]; exact List.mem_append_right _ he)
          simp only [List.mem_cons, List.not_mem_nil, or_false] at hds
          rcases hds with rfl | rfl
          · exact Nat.le_trans (depth_ens ok0) (by decide)
          · exact Nat.le_trans (depth_ens ok1) (by decide)
        refine ⟨D, p3, _, _, [e0.map En.k, e1.map En.k], [[], []], rfl, rfl, g13.lst I.hl, k3, .cons ⟨a0, x0, rfl, g13.lst I.h0, Tps.ts g13.ts _ _ I.t0⟩ (.cons ⟨a1, x1, rfl, g13.lst I.h1, Tps.ts g13.ts _ _ I.t1⟩ .nil), .cons ⟨p1, [], rfl, (g2.trans g3).lst k1, .nil⟩ (.cons ⟨p2, [], rfl, g3.lst k2, .nil⟩ .nil), d0, ?_⟩
        refine ⟨_, rfl, ite2 (fun c1 => ?_) (fun c1 => ?_)⟩
        · have I3 := I.sm g13
          have hne : e0 ≠ [] ∨ e1 ≠ [] := by
            by_cases q0 : e0 = []
            · by_cases q1 : e1 = []
              · subst q0; subst q1
                simp at c1
              · exact .inr q1
            · exact .inl q0
          have rest : ∀ (s : Nat) (zz : Option V), s ≤ 1 → (if s = 0 then e0 else e1) ≠ [] → ∀ H8, WeI T d c px py H D fa n H8 a0 a1 x0 x1 xs e0 e1 ps →
              (tyV K "list" (.ref fa) H8 ∧ rIxL K (.ref D) (.int (s : Int)) H8 fun y H1 => rIxL K y (.int 0) H1 fun x H1 => ∀ p, H1 p = none → rAppend (.ref fa) [.ref p] (upd H1 p (.tup [.int (s : Int), x])) fun _ H1 => rIxL K (.ref D) (.int (s : Int)) H1 fun y H1 => rSlL K y (some 1) none H1 fun z H1 => rSetL (.ref D) (.int (s : Int)) z H1 fun H3 =>
                ∃ m', m' < n ∧ (∃ z4 z5, [some (V.ref d), some (V.ref a), some (V.ref D), some (V.ref fa), some (V.int (s : Int)), zz] = [some (V.ref d), some (V.ref a), some (V.ref D), some (V.ref fa), z4, z5]) ∧ WeJ T d c px py H D fa m' H3) := by
            intro s zz hs hne H8 I
            obtain ⟨aS, xS, e, eR, hix, nSl, nSf, hS, tS, heS⟩ : ∃ aS xS e eR, ([V.ref a0, V.ref a1] : List V)[s]? = some (.ref aS) ∧ aS ≠ D ∧ aS ≠ fa ∧ H8 aS = some (.lst xS) ∧ Tps H8 xS ((e :: eR).map En.k) ∧ (if s = 0 then e0 else e1) = e :: eR := by
              match s, hs with
              | 0, _ =>
                cases e0 with
                | nil => exact absurd rfl hne
                | cons e eR => exact ⟨a0, x0, e, eR, rfl, I.n0.1, I.n0.2.1, I.h0, I.t0, rfl⟩
              | 1, _ =>
                cases e1 with
                | nil => exact absurd rfl hne
                | cons e eR => exact ⟨a1, x1, e, eR, rfl, I.n1.1, I.n1.2.1, I.h1, I.t1, rfl⟩
            obtain ⟨v, xr, rfl, tv, txr⟩ := tS.cons_inv
            refine ⟨tyl I.hf, D, _, (s : Int), _, rfl, rfl, .inl (.inl I.hl), atI_nat hix, ?_⟩
            refine ⟨aS, _, 0, v, rfl, rfl, .inl (.inl hS), atI_nat (j := 0) rfl, fun p hp => ?_⟩
            have g9 : Sm T H8 (upd H8 p (.tup [V.int (s : Int), v])) := Sm.new hp
            have t9 : Tp (upd H8 p (.tup [V.int (s : Int), v])) (.ref p) (SE.k (s, e)) := tup_new hp (.cons (.int _) (.cons tv .nil))
            generalize upd H8 p (.tup [V.int (s : Int), v]) = H9 at g9 t9
            have I9 := I.sm g9
            have hxl : xs.length ≤ 200 := by
              have := I.pn
              rw [I.tf.length, List.length_map]
              omega
            refine ⟨fa, xs, .ref p, rfl, rfl, I9.hf, sz_lt' (by omega), ?_⟩
            have muf : Mu (H9 fa) := by rw [I9.hf]; exact mu_lst
            have ts10 : TS H9 (upd H9 fa (.lst (xs ++ [.ref p]))) := TS.mu muf
            have hf10 : (upd H9 fa (.lst (xs ++ [.ref p]))) fa = some (.lst (xs ++ [.ref p])) := upd_same
            have ne10 : ∀ x, x ≠ fa → (upd H9 fa (.lst (xs ++ [.ref p]))) x = H9 x := fun x hx => upd_ne hx
            have dr10 := I9.dr.mutF ffa muf (o := .lst (xs ++ [.ref p]))
            have src10 := I9.src.upd (o := .lst (xs ++ [.ref p])) nfd nfc
            generalize upd H9 fa (.lst (xs ++ [.ref p])) = H10 at ts10 hf10 ne10 dr10 src10
            have hl10 : H10 D = some (.lst [.ref a0, .ref a1]) := by rw [ne10 D (Ne.symm nfD)]; exact I9.hl
            have hS10 : H10 aS = some (.lst (v :: xr)) := by rw [ne10 aS nSf]; exact g9.lst hS
            refine ⟨D, _, (s : Int), _, rfl, rfl, .inl (.inl hl10), atI_nat hix, ?_⟩
            refine ⟨aS, _, rfl, .inl (.inl hS10), fun q hq => ?_⟩
            have ec : cutV (v :: xr) (some 1) none = xr := by
              show ((v :: xr).drop (HT.sIx (xr.length + 1) 0 (some ((1 : Nat) : Int)))).take _ = xr
              rw [HT.sIx_nat, Nat.min_eq_left (by omega)]
              exact List.take_of_length_le (by rw [HT.sIx_none]; exact Nat.le_refl _)
            rw [ec]
            have g11 : Sm T H10 (upd H10 q (.lst xr)) := Sm.new hq
            have h11 : (upd H10 q (.lst xr)) q = some (.lst xr) := upd_same
            generalize upd H10 q (.lst xr) = H11 at g11 h11
            have nqD : q ≠ D := fun z => by rw [z, hl10] at hq; cases hq
            have nqf : q ≠ fa := fun z => by rw [z, hf10] at hq; cases hq
            obtain ⟨nqd, nqc⟩ := src10.ned hq
            have hl11 := g11.lst hl10
            refine ⟨D, _, (s : Int), s, rfl, rfl, hl11, ixN_at (by show s < 2; omega), ?_⟩
            have muD : Mu (H11 D) := by rw [hl11]; exact mu_lst
            have ts12 : TS H11 (upd H11 D (.lst (([V.ref a0, V.ref a1] : List V).set s (.ref q)))) := TS.mu muD
            have hl12 : (upd H11 D (.lst (([V.ref a0, V.ref a1] : List V).set s (.ref q)))) D = some (.lst (([V.ref a0, V.ref a1] : List V).set s (.ref q))) := upd_same
            have ne12 : ∀ x, x ≠ D → (upd H11 D (.lst (([V.ref a0, V.ref a1] : List V).set s (.ref q)))) x = H11 x := fun x hx => upd_ne hx
            have dr12 := (dr10.trans (Dr.of g11)).mutF fD muD (o := .lst (([V.ref a0, V.ref a1] : List V).set s (.ref q)))
            have src12 := (src10.sm g11).upd (o := .lst (([V.ref a0, V.ref a1] : List V).set s (.ref q))) nDd nDc
            generalize upd H11 D (.lst (([V.ref a0, V.ref a1] : List V).set s (.ref q))) = H12 at ts12 hl12 ne12 dr12 src12
            have ts912 : TS H9 H12 := (ts10.trans g11.ts).trans ts12
            have keepL : ∀ x zs, x ≠ D → x ≠ fa → H9 x = some (.lst zs) → H12 x = some (.lst zs) := fun x zs h1 h2 h3 => by
              rw [ne12 x h1]
              exact g11.lst (by rw [ne10 x h2]; exact h3)
            have hf12 : H12 fa = some (.lst (xs ++ [.ref p])) := by rw [ne12 fa nfD]; exact g11.lst hf10
            have hq12 : H12 q = some (.lst xr) := by rw [ne12 q nqD]; exact h11
            have tq12 : Tps H12 xr (eR.map En.k) := Tps.ts (g9.ts.trans ts912) _ _ txr
            have tf12 : Tps H12 (xs ++ [.ref p]) ((ps ++ [(s, e)]).map SE.k) := by
              rw [List.map_append]
              exact (Tps.ts ts912 _ _ I9.tf).append (.cons (Tp.ts ts912 _ _ t9) .nil)
            have sl12 : ∀ p ∈ ps ++ [(s, e)], p.1 ≤ 1 := fun p hp => by
              rcases List.mem_append.mp hp with hp | hp
              · exact I.sl p hp
              · rw [List.mem_singleton.mp hp]; exact hs
            have pl12 : (ps ++ [(s, e)]).length = ps.length + 1 := by rw [List.length_append]; rfl
            have hnn := I.hn
            have hpn := I.pn
            match s, hs with
            | 0, _ =>
              have heS : e0 = e :: eR := heS
              subst heS
              rw [List.length_cons] at hnn
              refine ⟨n - 1, by omega, ⟨_, _, rfl⟩, q, a1, xr, x1, xs ++ [.ref p], eR, e1, ps ++ [(0, e)], dr12, src12, nfD, ⟨nqD, nqf, nqd, nqc⟩, I.n1, hl12, hq12, keepL _ _ I.n1.1 I.n1.2.1 I9.h1, hf12, tq12, Tps.ts ts912 _ _ I9.t1, tf12, ?_, ?_, sl12, by omega, by omega⟩
              · have := I.s0
                unfold sideE at this ⊢
                rw [List.filterMap_append, ← this]
                simp
              · have := I.s1
                unfold sideE at this ⊢
                rw [List.filterMap_append, ← this]
                simp
            | 1, _ =>
              have heS : e1 = e :: eR := heS
              subst heS
              rw [List.length_cons] at hnn
              refine ⟨n - 1, by omega, ⟨_, _, rfl⟩, a0, q, x0, xr, xs ++ [.ref p], e0, eR, ps ++ [(1, e)], dr12, src12, nfD, I.n0, ⟨nqD, nqf, nqd, nqc⟩, hl12, keepL _ _ I.n0.1 I.n0.2.1 I9.h0, hq12, hf12, Tps.ts ts912 _ _ I9.t0, tq12, tf12, ?_, ?_, sl12, by omega, by omega⟩
              · have := I.s0
                unfold sideE at this ⊢
                rw [List.filterMap_append, ← this]
                simp
              · have := I.s1
                unfold sideE at this ⊢
                rw [List.filterMap_append, ← this]
                simp
          refine ⟨_, fun _ _ h => h, ?_⟩
          refine ⟨d, c, 2, rfl, I3.src, by decide, fun sd H4 dr4 src4 hsd => ?_⟩
          have I4 := I3.drw dr4 src4 nDd nDc nfd nfc
          have hsd1 : sd ≤ 1 := by omega
          obtain ⟨aS, xS, eS, hix, hS, tS, heS⟩ : ∃ aS xS eS, ([V.ref a0, V.ref a1] : List V)[sd]? = some (.ref aS) ∧ H4 aS = some (.lst xS) ∧ Tps H4 xS (eS.map En.k) ∧ (if sd = 0 then e0 else e1) = eS := by
            match sd, hsd1 with
            | 0, _ => exact ⟨a0, x0, e0, rfl, I4.h0, I4.t0, rfl⟩
            | 1, _ => exact ⟨a1, x1, e1, rfl, I4.h1, I4.t1, rfl⟩
          refine ⟨D, _, (sd : Int), _, rfl, rfl, .inl (.inl I4.hl), atI_nat hix, fun p4 hp4 => ?_⟩
          have g5 : Sm T H4 (upd H4 p4 (.lst [])) := Sm.new hp4
          have k5 : (upd H4 p4 (.lst [])) p4 = some (.lst []) := upd_same
          generalize upd H4 p4 (.lst []) = G5 at g5 k5
          have I5 := I4.sm g5
          have dS : NestedKey.depthAll (eS.map En.k) ≤ 50 := by
            rw [← heS]
            match sd, hsd1 with
            | 0, _ => exact d0 _ List.mem_cons_self
            | 1, _ => exact d0 _ (List.mem_cons_of_mem _ List.mem_cons_self)
          refine ⟨_, _, ⟨aS, xS, rfl, g5.lst hS, Tps.ts g5.ts _ _ tS⟩, ⟨p4, [], rfl, k5, .nil⟩, dS, ?_⟩
          refine ⟨_, rfl, ite2 (fun c2 => ?_) (fun c2 => ?_)⟩
          · refine rest sd _ hsd1 (fun z => ?_) _ I5
            rw [heS] at z
            subst z
            simp at c2
          · refine ⟨(sd : Int), rfl, ?_⟩
            have e1s : (1 : Int) - (sd : Int) = ((1 - sd : Nat) : Int) := by omega
            rw [e1s]
            refine rest (1 - sd) _ (by omega) (fun z => ?_) _ I5
            have heS0 : eS = [] := by
              by_cases q : eS = []
              · exact q
              · exact absurd (by simpa using q) c2
            subst heS0
            match sd, hsd1 with
            | 0, _ =>
              have z : e1 = [] := z
              have q : e0 = [] := heS
              exact hne.elim (fun h => h q) fun h => h z
            | 1, _ =>
              have z : e0 = [] := z
              have q : e1 = [] := heS
              exact hne.elim (fun h => h z) fun h => h q
        · have e00 : e0 = [] ∧ e1 = [] := by
            have : [e0.map En.k, e1.map En.k] = ([[], []] : List (List NestedKey)) := by
              by_cases q : [e0.map En.k, e1.map En.k] = ([[], []] : List (List NestedKey))
              · exact q
              · exact absurd (by rw [decide_eq_false q]; rfl) c1
            have h1 := (List.cons.inj this).1
            have h2 := (List.cons.inj (List.cons.inj this).2).1
            exact ⟨List.map_eq_nil_iff.mp h1, List.map_eq_nil_iff.mp h2⟩
          obtain ⟨rfl, rfl⟩ := e00
          have s0 := I.s0
          have s1 := I.s1
          have hnn : (0 : Nat) = n := I.hn
          have hpn := I.pn
          rw [List.append_nil] at s0 s1
          exact k (.ref fa) ps G3 (I.dr.trans (Dr.of g13)) (I.src.sm g13) ⟨fa, xs, rfl, g13.lst I.hf, Tps.ts g13.ts _ _ I.tf⟩ I.sl s0 s1 (by omega)
end K67
end
/-! ## K67P3 -/
section
set_option maxHeartbeats 4000000
/-! K67P3: what holds of drawn joins and rows -/
namespace K67
open PySem PySem.Spec PyProof.Rows L2 LamX NdefX
/-! ### values of a kind -/
theorem valOf_cases {k : Str} {d : NestedKey} (h : valOf k d) : d = .none ∨ (k = "text" ∧ ∃ x, d = .text x ∧ (x = "a" ∨ x = "b" ∨ x = "")) ∨ (k ≠ "text" ∧ ∃ i, d = .num i) := by
  unfold valOf at h
  by_cases c : k = "text"
  · rw [if_pos c] at h
    simp only [List.mem_cons, List.not_mem_nil, or_false] at h
    rcases h with rfl | rfl | rfl | rfl
    · exact .inl rfl
    · exact .inr (.inl ⟨c, _, rfl, .inl rfl⟩)
    · exact .inr (.inl ⟨c, _, rfl, .inr (.inl rfl)⟩)
    · exact .inr (.inl ⟨c, _, rfl, .inr (.inr rfl)⟩)
  · rw [if_neg c] at h
    simp only [List.mem_cons, List.not_mem_nil, or_false] at h
    rcases h with rfl | rfl | rfl | rfl | rfl
    · exact .inl rfl
    · exact .inr (.inr ⟨c, _, rfl⟩)
    · exact .inr (.inr ⟨c, _, rfl⟩)
    · exact .inr (.inr ⟨c, _, rfl⟩)
    · exact .inr (.inr ⟨c, _, rfl⟩)
theorem valOf_atom {k : Str} {d : NestedKey} (h : valOf k d) : atomB d = true := by
  rcases valOf_cases h with rfl | ⟨_, x, rfl, _⟩ | ⟨_, i, rfl⟩ <;> rfl
theorem valOf_dom {k : Str} {d : NestedKey} (h : valOf k d) : domB d = true := by
  rcases valOf_cases h with rfl | ⟨_, x, rfl, rfl | rfl | rfl⟩ | ⟨_, i, rfl⟩
  · rfl
  · decide +kernel
  · decide +kernel
  · decide +kernel
  · rfl
theorem alk_rank {k : Str} {d e : NestedKey} (h : valOf k d) (h' : valOf k e) : PySem.W.alike (rankK d).data (rankK e).data = true := by
  rcases valOf_cases h with rfl | ⟨c, x, rfl, _⟩ | ⟨c, i, rfl⟩ <;> rcases valOf_cases h' with rfl | ⟨c', y, rfl, _⟩ | ⟨c', j, rfl⟩
  all_goals first | exact absurd c c' | exact absurd c' c | simp [rankK, NestedKey.data, NestedKey.datas, PySem.W.alike, PySem.W.alikeAll]
theorem alk_lrank {d e : NestedKey} (h : atomB d = true) (h' : atomB e = true) : PySem.W.alike (lrankK d).data (lrankK e).data = true := by
  cases d with
  | tup _ => cases h
  | _ =>
    cases e with
    | tup _ => cases h'
    | _ => simp [lrankK, NestedKey.data, NestedKey.datas, PySem.W.alike, PySem.W.alikeAll]
/-- values of columns -/
abbrev VC (vs : List NestedKey) (cs : List Col) : Prop := Paired (fun d (c : Col) => valOf c.2 d) vs cs
theorem vc_atoms : ∀ {vs : List NestedKey} {cs : List Col}, VC vs cs → vs.all atomB = true
  | _, _, .nil => rfl
  | _, _, .cons h t => by rw [List.all_cons, valOf_atom h, vc_atoms t]; rfl
theorem vc_doms : ∀ {vs : List NestedKey} {cs : List Col}, VC vs cs → vs.all domB = true
  | _, _, .nil => rfl
  | _, _, .cons h t => by rw [List.all_cons, valOf_dom h, vc_doms t]; rfl
theorem vc_app : ∀ {vs ws : List NestedKey} {cs ds : List Col}, VC vs cs → VC ws ds → VC (vs ++ ws) (cs ++ ds)
  | _, _, _, _, .nil, s => s
  | _, _, _, _, .cons h t, s => .cons h (vc_app t s)
theorem vc_get : ∀ {vs : List NestedKey} {cs : List Col} {i : Nat}, VC vs cs → i < cs.length → valOf (cs.getD i ("", "")).2 (vs.getD i .none)
  | _, _, i, .nil, h => absurd h (Nat.not_lt_zero i)
  | _, _, 0, .cons h t, _ => h
  | _, _, i + 1, .cons h t, hi => vc_get (i := i) t (Nat.lt_of_succ_lt_succ hi)
theorem vc_pick {vs : List NestedKey} {cs : List Col} (h : VC vs cs) : ∀ {l : List Nat}, (∀ i ∈ l, i < cs.length) → VC (pickK l vs) (l.map fun i => cs.getD i ("", ""))
  | [], _ => .nil
  | i :: l, hl => .cons (vc_get h (hl i List.mem_cons_self)) (vc_pick h fun j hj => hl j (List.mem_cons_of_mem _ hj))
theorem al_ranks : ∀ {vs ws : List NestedKey} {cs : List Col}, VC vs cs → VC ws cs → PySem.W.alikeAll (NestedKey.datas (vs.map rankK)) (NestedKey.datas (ws.map rankK)) = true
  | _, _, _, .nil, .nil => by simp [NestedKey.datas, PySem.W.alikeAll]
  | _, _, _, .cons h t, .cons h' t' => by
    rw [List.map_cons, List.map_cons]
    show PySem.W.alikeAll (_ :: NestedKey.datas _) (_ :: NestedKey.datas _) = true
    rw [PySem.W.alikeAll, al_ranks t t', alk_rank h h']
    rfl
theorem al_lranks : ∀ {vs ws : List NestedKey}, vs.all atomB = true → ws.all atomB = true → PySem.W.alikeAll (NestedKey.datas (vs.map lrankK)) (NestedKey.datas (ws.map lrankK)) = true
  | [], _, _, _ => by simp [NestedKey.datas, PySem.W.alikeAll]
  | _ :: _, [], _, _ => by simp [NestedKey.datas, PySem.W.alikeAll]
  | v :: vs, w :: ws, h, h' => by
    rw [List.all_cons, Bool.and_eq_true] at h h'
    rw [List.map_cons, List.map_cons]
    show PySem.W.alikeAll (_ :: NestedKey.datas _) (_ :: NestedKey.datas _) = true
    rw [PySem.W.alikeAll, al_lranks h.2 h'.2, alk_lrank h.1 h'.1]
    rfl
theorem al_given {a b : Row} {cs : List Col} (h : VC a.vs cs) (h' : VC b.vs cs) : PySem.W.alike (givenK a).data (givenK b).data = true := by
  have := al_ranks h h'
  simp [givenK, NestedKey.data, NestedKey.datas, PySem.W.alike, PySem.W.alikeAll, this]
theorem al_lgiven {a b : Row} (h : a.vs.all atomB = true) (h' : b.vs.all atomB = true) : PySem.W.alike (lgivenK a).data (lgivenK b).data = true := by
  have := al_lranks h h'
  simp [lgivenK, NestedKey.data, NestedKey.datas, PySem.W.alike, PySem.W.alikeAll, this]
theorem al_kept {l : List Nat} {a b : Row} {cs : List Col} (h : VC a.vs cs) (h' : VC b.vs cs) (hl : ∀ i ∈ l, i < cs.length) : PySem.W.alike (keptK l a).data (keptK l b).data = true := by
  have h1 := al_ranks h h'
  have h2 := al_ranks (vc_pick h hl) (vc_pick h' hl)
  simp [keptK, NestedKey.data, NestedKey.datas, PySem.W.alike, PySem.W.alikeAll, h1, h2]
/-! ### a drawn join -/
section
variable {q : Qry} (D : DrawnQ q)
theorem names_len (cs : List Col) : (colNames cs).length = cs.length := List.length_map _
theorem plc_at {ns : List Str} (nd : ns.Nodup) {i : Nat} {n : Str} (h : ns[i]? = some n) : plc ns n = i := by
  obtain ⟨hi, e⟩ := List.getElem?_eq_some_iff.mp h
  have hm : n ∈ ns := List.mem_of_getElem? h
  have hl := plc_lt hm
  have h2 : (ns.map NestedKey.text)[plc ns n]'(by rw [List.length_map]; exact hl) = .text n := List.getElem_idxOf _
  rw [List.getElem_map] at h2
  have h3 : ns[plc ns n] = ns[i] := by rw [e]; exact NestedKey.text.inj h2
  exact (List.getElem_inj nd).mp h3
include D in
theorem qJn_eq : qJn q = joinJ q := by
  have h : (restN q).map (plc (colNames q.R)) = restIx q := by
    have e : restIx q = q.R.filterMap fun c => if c.1 ∈ q.keys then none else some (plc (colNames q.R) c.1) := by
      rw [← fm_at]
      unfold restIx
      congr 1
      funext i
      cases hc : q.R[i]? with
      | none => rfl
      | some c =>
        have : plc (colNames q.R) c.1 = i := plc_at D.nd (by unfold colNames; rw [List.getElem?_map, hc]; rfl)
        show (if c.1 ∈ q.keys then none else some i) = if c.1 ∈ q.keys then none else some (plc (colNames q.R) c.1)
        rw [this]
    rw [e]
    unfold restN
    rw [show (colNames q.R).filter (fun n => decide (n ∉ q.keys)) = q.R.filterMap fun c => if c.1 ∈ q.keys then none else some c.1 from ?_, List.map_filterMap]
    · congr 1
      funext c
      by_cases h : c.1 ∈ q.keys
      · rw [if_pos h, if_pos h]; rfl
      · rw [if_neg h, if_neg h]; rfl
    · unfold colNames
      generalize q.R = R
      induction R with
      | nil => rfl
      | cons c R ih =>
        rw [List.map_cons, List.filter_cons, List.filterMap_cons, ih]
        by_cases h : c.1 ∈ q.keys
        · rw [if_pos h]; simp [h]
        · rw [if_neg h]; simp [h]
  unfold qJn joinJ
  rw [h]
theorem restIx_lt : ∀ i ∈ restIx q, i < q.R.length := fun i hi => by
  obtain ⟨j, hj, e⟩ := List.mem_filterMap.mp hi
  have hj := List.mem_range.mp hj
  cases hc : q.R[j]? with
  | none => rw [hc] at e; cases e
  | some c =>
    rw [hc] at e
    have e : (if c.1 ∈ q.keys then none else some j) = some i := e
    by_cases h : c.1 ∈ q.keys
    · rw [if_pos h] at e; cases e
    · rw [if_neg h] at e; cases e; exact hj
abbrev TyD (cs : List Col) : Row → Prop := rowOf cs 0
theorem ty_len {cs : List Col} {r : Row} (h : TyD cs r) : r.vs.length = cs.length := Paired.length h.2.2.2
theorem ty_ok {cs : List Col} (hc : cs.length ≤ 10) {r : Row} (h : TyD cs r) : r.ok := ⟨vc_atoms h.2.2.2, by rw [ty_len h]; omega, h.2.2.1⟩
include D in
theorem l_lt : ∀ i ∈ (joinJ q).l, i < q.L.length := fun i hi => by
  obtain ⟨n, hn, rfl⟩ := List.mem_map.mp hi
  have := plc_lt (D.kl n hn)
  rw [names_len] at this
  exact this
include D in
theorem r_lt : ∀ i ∈ (joinJ q).r, i < q.R.length := fun i hi => by
  obtain ⟨n, hn, rfl⟩ := List.mem_map.mp hi
  have := plc_lt (D.kr n hn)
  rw [names_len] at this
  exact this
theorem rest_len : (restIx q).length ≤ q.R.length := by
  unfold restIx
  have := List.length_filterMap_le (fun i => q.R[i]?.bind fun c => if c.1 ∈ q.keys then none else some i) (List.range q.R.length)
  rw [List.length_range] at this
  exact this
theorem sgn_mul {a b : Int} (ha : a = 1 ∨ a = -1) (hb : b = 1 ∨ b = -1) : a * b = 1 ∨ a * b = -1 := by
  rcases ha with rfl | rfl <;> rcases hb with rfl | rfl <;> decide
theorem vc_pair {a b : Row} (ha : TyD q.L a) (hb : TyD q.R b) : VC (pairR (joinJ q) a b).vs (q.L ++ (restIx q).map fun i => q.R.getD i ("", "")) := vc_app ha.2.2.2 (vc_pick hb.2.2.2 restIx_lt)
include D in
theorem pair_ok {a b : Row} (ha : TyD q.L a) (hb : TyD q.R b) : (pairR (joinJ q) a b).ok := by
  refine ⟨vc_atoms (vc_pair ha hb), ?_, sgn_mul ha.2.2.1 hb.2.2.1⟩
  rw [Paired.length (vc_pair ha hb), List.length_append, List.length_map]
  have h1 := D.ok.l
  have h2 := D.ok.r
  have h3 := rest_len (q := q)
  omega
include D in
theorem drawn_jt : JT (joinJ q) (TyD q.L) (TyD q.R) where
  okL a ha := ⟨ty_ok D.ok.l ha, fun i hi => by rw [ty_len ha]; exact l_lt D i hi, by show (q.keys.map _).length ≤ 100; rw [List.length_map]; have := D.ok.k; omega⟩
  okR a ha := ⟨ty_ok D.ok.r ha, fun i hi => by rw [ty_len ha]; exact r_lt D i hi, by show (q.keys.map _).length ≤ 100; rw [List.length_map]; have := D.ok.k; omega⟩
  jok a b ha hb := ⟨fun i hi => by rw [ty_len ha]; exact l_lt D i hi, fun i hi => by rw [ty_len hb]; exact r_lt D i hi, fun i hi => by rw [ty_len hb]; exact restIx_lt i hi, by show (q.keys.map _).length ≤ 100; rw [List.length_map]; have := D.ok.k; omega, by show (q.keys.map _).length ≤ 100; rw [List.length_map]; have := D.ok.k; omega, by have h := rest_len (q := q); have h2 := D.ok.r; show (restIx q).length ≤ 100; omega⟩
  pok a b ha hb := pair_ok D ha hb
  alL a b ha hb := al_kept ha.2.2.2 hb.2.2.2 (l_lt D)
  alR a b ha hb := al_kept ha.2.2.2 hb.2.2.2 (r_lt D)
  alM a b c d ha hb hc hd := al_given (vc_pair ha hb) (vc_pair hc hd)
theorem drawn_lal : LAl (joinJ q) (TyD q.L) (TyD q.R) := fun a b c d ha hb hc hd => al_lgiven (vc_atoms (vc_pair ha hb)) (vc_atoms (vc_pair hc hd))
end
/-! ### parts -/
def TyP (cs : List Col) (es : List En) : Prop := ∀ r, En.row r ∈ es → TyD cs r
theorem rowsOf_mem {es : List En} {r : Row} (h : r ∈ rowsOf es) : En.row r ∈ es := by
  obtain ⟨e, he, z⟩ := List.mem_filterMap.mp h
  cases e with
  | mark _ => cases z
  | row q => cases z; exact he
theorem tyP_rows {cs : List Col} {es : List En} (h : TyP cs es) : ∀ r ∈ rowsOf es, TyD cs r := fun r hr => h r (rowsOf_mem hr)
theorem tyP_take {cs : List Col} {es : List En} (h : TyP cs es) (n : Nat) : TyP cs (es.take n) := fun r hr => h r (List.mem_of_mem_take hr)
theorem tyP_ok {cs : List Col} (hc : cs.length ≤ 10) {es : List En} (h : TyP cs es) : ∀ e ∈ es, EnOk e := fun e he => by
  cases e with
  | mark _ => exact True.intro
  | row r => exact ty_ok hc (h r he)
theorem lateGo_take : ∀ (es : List En) (n : Nat) (m : Int), lateGo m es → lateGo m (es.take n)
  | _, 0, _, _ => True.intro
  | [], _ + 1, _, _ => True.intro
  | .mark k :: es, n + 1, m, h => lateGo_take es n (max m k) h
  | .row r :: es, n + 1, m, h => ⟨h.1, lateGo_take es n m h.2⟩
theorem rowsL_rows (p : List En) : (rowsL p).map (·.1) = rowsOf p := by
  unfold rowsL
  rw [List.map_filterMap]
  refine Eq.trans ?_ (fm_at p (fun e => match e with
    | .row r => some r
    | .mark _ => none))
  have : ∀ i : Nat, (p[i]?.bind (rowAt i)).map (·.1) = p[i]?.bind fun e => match e with
    | .row r => some r
    | .mark _ => none := fun i => by
    cases p[i]? with
    | none => rfl
    | some e => cases e <;> rfl
  rw [show (fun i => (p[i]?.bind (rowAt i)).map (·.1)) = fun i => p[i]?.bind fun e => match e with
    | .row r => some r
    | .mark _ => none from funext this]
theorem rowsL_len (p : List En) : (rowsL p).length = (rowsOf p).length := by rw [← rowsL_rows, List.length_map]
theorem rowsL_ty {cs : List Col} {p : List En} (h : TyP cs p) : ∀ x ∈ rowsL p, TyD cs x.1 := fun x hx => tyP_rows h _ (by rw [← rowsL_rows]; exact List.mem_map_of_mem hx)
theorem prs_rows (j : Jn) (ls rs : List SR) : (prs j ls rs).map (·.1) = allP j (ls.map (·.1)) (rs.map (·.1)) := by
  unfold prs allP
  rw [List.map_flatMap, List.flatMap_map]
  congr 1
  funext a
  unfold mates
  rw [List.map_map, List.filter_map, List.map_map]
  rfl
section
variable {q : Qry} {px py : List En} (D : DrawnQ q) (hx : TyP q.L px) (hy : TyP q.R py)
include D hx hy
theorem drawn_qok (nx : lateGo 0 px) (ny : lateGo 0 py) (lx : px.length ≤ 900) (ly : py.length ≤ 900) (rx : (rowsOf px).length ≤ 20) (ry : (rowsOf py).length ≤ 20) : QOk q px py :=
  ⟨⟨D.ok, D.kl, D.kr, fun p hp => ⟨ty_ok D.ok.l (rowsL_ty hx p hp), ty_len (rowsL_ty hx p hp)⟩, fun p hp => ⟨ty_ok D.ok.r (rowsL_ty hy p hp), ty_len (rowsL_ty hy p hp)⟩, by rw [rowsL_len]; exact rx, by rw [rowsL_len]; exact ry⟩, nx, ny, by omega, by omega⟩
theorem prs_mem : ∀ p ∈ prs (qJn q) (rowsL px) (rowsL py), ∃ a b i j, TyD q.L a ∧ TyD q.R b ∧ p = (pairR (joinJ q) a b, i, j) := fun p hp => by
  rw [qJn_eq D] at hp
  obtain ⟨a, ha, hp⟩ := List.mem_flatMap.mp hp
  obtain ⟨b, hb, rfl⟩ := List.mem_map.mp hp
  exact ⟨a.1, b.1, a.2, b.2, rowsL_ty hx a ha, rowsL_ty hy b (List.mem_filter.mp hb).1, rfl⟩
theorem prs_ok : ∀ p ∈ prs (qJn q) (rowsL px) (rowsL py), p.1.ok := fun p hp => by
  obtain ⟨a, b, i, j, ha, hb, rfl⟩ := prs_mem D hx hy p hp
  exact pair_ok D ha hb
theorem prs_alike : PySem.W.AllAlike ((prs (qJn q) (rowsL px) (rowsL py)).map fun p => (lamK p).data) := fun d hd d' hd' => by
  obtain ⟨p, hp, rfl⟩ := List.mem_map.mp hd
  obtain ⟨p', hp', rfl⟩ := List.mem_map.mp hd'
  obtain ⟨a, b, i, j, ha, hb, rfl⟩ := prs_mem D hx hy p hp
  obtain ⟨a', b', i', j', ha', hb', rfl⟩ := prs_mem D hx hy p' hp'
  have := al_given (vc_pair ha hb) (vc_pair ha' hb')
  simp [lamK, plD, NestedKey.data, NestedKey.datas, PySem.W.alike, PySem.W.alikeAll, this]
/-- what the law has for due -/
theorem due_rows {L R : List Row} (pL : (rowsOf px).Perm L) (pR : (rowsOf py).Perm R) : (dueP q px py).map (·.1) = (allP (joinJ q) L R).mergeSort leL := by
  unfold dueP
  refine sortM_eq ?_ ?_
  · rw [prs_rows, rowsL_rows, rowsL_rows, qJn_eq D]
    exact allP_perm pL pR
  · intro r hr
    obtain ⟨a, ha, hr⟩ := List.mem_flatMap.mp hr
    obtain ⟨b, hb, rfl⟩ := List.mem_map.mp hr
    exact vc_atoms (vc_pair (tyP_rows hx a (pL.mem_iff.mpr ha)) (tyP_rows hy b (pR.mem_iff.mpr (List.mem_filter.mp hb).1)))
end
theorem allP_mem {j : Jn} {L R : List Row} {r : Row} (h : r ∈ allP j L R) : ∃ a b, a ∈ L ∧ b ∈ R ∧ r = pairR j a b := by
  obtain ⟨a, ha, hr⟩ := List.mem_flatMap.mp h
  obtain ⟨b, hb, rfl⟩ := List.mem_map.mp hr
  exact ⟨a, b, ha, (List.mem_filter.mp hb).1, rfl⟩
theorem allP_len (j : Jn) (R : List Row) : ∀ L : List Row, (allP j L R).length ≤ L.length * R.length
  | [] => Nat.zero_le _
  | a :: L => by
    have := allP_len j R L
    unfold allP at this ⊢
    rw [List.flatMap_cons, List.length_append, List.length_map, List.length_cons, Nat.succ_mul]
    have h2 := List.length_filter_le (meetB j a) R
    omega
theorem allP_dom {q : Qry} (D : DrawnQ q) {L R : List Row} (hL : ∀ a ∈ L, TyD q.L a) (hR : ∀ b ∈ R, TyD q.R b) : ∀ r ∈ allP (joinJ q) L R, RowDom r := fun r hr => by
  obtain ⟨a, b, ha, hb, rfl⟩ := allP_mem hr
  have h1 := hL a ha
  have h2 := hR b hb
  have ok := pair_ok D h1 h2
  refine ⟨?_, ok.2.2, vc_doms (vc_pair h1 h2), ok.2.1⟩
  show 0 ≤ max a.t b.t
  have := h1.1
  omega
theorem allP_atoms {q : Qry} (D : DrawnQ q) {L R : List Row} (hL : ∀ a ∈ L, TyD q.L a) (hR : ∀ b ∈ R, TyD q.R b) : Atoms (allP (joinJ q) L R) := fun r hr => by
  obtain ⟨a, b, ha, hb, rfl⟩ := allP_mem hr
  exact vc_atoms (vc_pair (hL a ha) (hR b hb))
theorem things_len (ps : List SE) : (things ps).length ≤ ps.length := by
  have outl : ∀ l : List SE, ∀ x : Mk, (l.foldl Mk.step x).out.length ≤ x.out.length + l.length := fun l => by
    induction l with
    | nil => intro x; exact Nat.le_refl _
    | cons a l ih =>
      intro x
      rw [List.foldl_cons, List.length_cons]
      have := ih (x.step a)
      have h2 := mk_out x a
      omega
  have := outl ps ⟨0, 0, 0, []⟩
  have h : (Mk.out ⟨0, 0, 0, []⟩).length = 0 := rfl
  unfold things
  omega
end K67
end
/-! ## K67L10 -/
section
set_option maxHeartbeats 4000000
/-! K67L10: rules for law: comprehensions whose elements draw, zip, a list unpacked -/
namespace K67
open PySem PySem.Spec PyProof.Rows L2 LamX NdefX
local macro_rules | `(tactic| walk_at "sm") => `(tactic| first | assumption | exact Sm.refl _ _ | (refine Sm.trans ?_ (by assumption); walk_at "sm"))
local macro_rules | `(tactic| walk_at "ts") => `(tactic| first | assumption | exact TS.refl _ | (refine TS.trans ?_ (by assumption); walk_at "ts") | (refine TS.trans ?_ (Sm.ts (by assumption)); walk_at "ts"))
local macro_rules | `(tactic| walk_at "tp") => `(tactic| first | assumption | exact Tp.int _ | exact Tp.str _ | exact Tp.non | (refine Tp.ts (H := ?_) ?_ _ _ (by assumption); walk_at "ts"))
local macro_rules | `(tactic| walk_at "tps") => `(tactic| first | assumption | exact Tps.nil | (refine Tps.cons ?_ ?_; · walk_at "tp"; · walk_at "tps") | (refine Tps.ts (H := ?_) ?_ _ _ (by assumption); walk_at "ts"))
local macro_rules | `(tactic| walk_at "rd") => `(tactic| try simp only [rMax2, and_assoc, tYes, tSeq, tIfS, tRet, tNext, tTest, tB, tOp, tUn, tVar, tC, tTup, tLst, tCons, tNil, tIf, tCB, tCall, tBM, tBM0, tAsg, gName, gCons, gNil, gSub, tDrop, tPar, tPar3, tAug, tAnd, tOr, tNot, tAndV, tOrV, tNotV, tChain, tSl, tPart, tNoPart, rI0, rI, rU, rEq, rNe, L2.start, wipe, sz0, sz1, sz2, sz3, sz4, sz5, sz6, List.map_cons, List.map_nil, List.length_cons, List.length_nil, List.cons_append, List.nil_append, List.append_nil, List.getElem?_cons_zero, List.getElem?_cons_succ, List.set_cons_zero, List.set_cons_succ, List.replicate_zero, List.replicate_succ, Option.some.injEq, V.bl.injEq, V.int.injEq, V.str.injEq, List.cons.injEq, and_true, true_and, exists_eq_left', exists_eq_left, exists_eq', exists_eq, exists_and_left, Nat.reduceSub, Nat.reduceAdd, Nat.reduceLeDiff, decide_true, decide_false, if_true, if_false, Bool.false_eq_true, reduceIte])
local macro_rules | `(tactic| walk_at "rd2") => `(tactic| try simp only [tDGet, sDPut, tDNewK, tNNew, tNGet2, tNSetd, tNGet, sNPut, tTupF, tCKw, tDead, sDead, tDispN, tPairs, StX.tStar, rNeDN, rNeDN2, rMax2, and_assoc, tYes, tSeq, tIfS, tRet, tNext, tTest, tB, tOp, tUn, tVar, tC, tTup, tLst, tCons, tNil, tIf, tCB, tCall, tBM, tBM0, tAsg, gName, gCons, gNil, gSub, tDrop, tPar, tPar3, tAug, tAnd, tOr, tNot, tAndV, tOrV, tNotV, tChain, tSl, tPart, tNoPart, rI0, rI, rU, rEq, rNe, L2.start, wipe, sz0, sz1, sz2, sz3, sz4, sz5, sz6, List.map_cons, List.map_nil, List.length_cons, List.length_nil, List.cons_append, List.nil_append, List.append_nil, List.getElem?_cons_zero, List.getElem?_cons_succ, List.set_cons_zero, List.set_cons_succ, List.replicate_zero, List.replicate_succ, Option.some.injEq, V.bl.injEq, V.int.injEq, V.str.injEq, List.cons.injEq, and_true, true_and, exists_eq_left', exists_eq_left, exists_eq', exists_eq, exists_and_left, Nat.reduceSub, Nat.reduceAdd, Nat.reduceLeDiff, decide_true, decide_false, if_true, if_false, Bool.false_eq_true, reduceIte])

theorem pg_lstK {X : Cx} {K : PySem.W.Frag} {es : List Expr} {k : Nat} {t : TGs} {n : Nat} {pos : Pos} (hK : X.K = K) (hc : X.calm = true) (h : PGs X es t) (hn : (assignEach es X.env).length = n := by rfl) (hst : (assignEach es X.env).findIdx? (·.1) = none := by rfl) : PG X (.Tuple es k pos) (gLst K n t) := by
  subst hK; exact pg_lst hc h hn hst
theorem tseq {a b : L2.TS} {D : Ends} {σ : L2.St} {H : Hp} (h : a { D with nx := b D } σ H) : tSeq a b D σ H := h
section
variable {T : List (Addr × Str)} {K : PySem.W.Frag} {d c : Addr} {H : Hp} {σ : L2.St} {vs : List Nat} {tl te : TE} {ta : TA} {g : TG} {Q : VK} {α β : Type}
theorem Paired.snoc_take {R : α → β → Prop} {as : List α} {bs : List β} {i : Nat} {a : α} {b : β} (h : Paired R (as.take i) bs) (ha : as[i]? = some a) (r : R a b) : Paired R (as.take (i + 1)) (bs ++ [b]) := by
  rw [List.take_add_one, ha]
  exact Paired.snoc h r
/-- the turn of a comprehension whose element draws -/
abbrev TurnD (T : List (Addr × Str)) (d c : Addr) (g : TG) (te : TE) (vs : List Nat) (σ : L2.St) (R : Hp → V → β → Prop) (G : β → Prop) (x : V) (H : Hp) : Prop :=
  ∀ (Qy : V → Hp → Prop), (∀ y b H2, G b → Dr T d c H H2 → Src H2 d c → R H2 y b → Qy y H2) → g x (wipe σ vs) H fun σ2 H2 => wipe σ2 vs = wipe σ vs ∧ te σ2 H2 Qy
theorem draw_step {D : Addr} {H1 H2 : Hp} {i : Nat} {as : List α} {ys : List V} {bs : List β} {a : α} {b : β} {y : V} (R : Addr → Hp → V → β → Prop) (G : α → β → Prop) (fD : Fresh H D) (nd : D ≠ d) (nc : D ≠ c)
    (hR : ∀ D H H' v b, XBut D H H' → R D H v b → R D H' v b) (hRd : ∀ D H1 H' v b, Dr T d c H1 H' → R D H1 v b → R D H' v b)
    (dr1 : Dr T d c H H1) (hD : H1 D = some (.lst ys)) (pr : Paired (R D H1) ys bs) (pg : Paired G (as.take i) bs) (ha : as[i]? = some a) (hl : as.length ≤ 100000) (hg : G a b) (dr2 : Dr T d c H1 H2) (src2 : Src H2 d c) (r : R D H2 y b) :
    ∃ acc, H2 D = some (.lst acc) ∧ acc.length < sizeLine ∧ (Dr T d c H (upd H2 D (.lst (acc ++ [y]))) ∧ Src (upd H2 D (.lst (acc ++ [y]))) d c ∧ ∃ ys bs, (upd H2 D (.lst (acc ++ [y]))) D = some (.lst ys) ∧ Paired (R D (upd H2 D (.lst (acc ++ [y])))) ys bs ∧ Paired G (as.take (i + 1)) bs) := by
  have hD2 := dr2.lst nd nc hD
  have mu : Mu (H2 D) := by rw [hD2]; exact mu_lst
  have xb : XBut D H2 (upd H2 D (.lst (ys ++ [y]))) := XBut.upd mu
  have hil : i < as.length := (List.getElem?_eq_some_iff.mp ha).1
  refine ⟨ys, hD2, sz_lt' ?_, (dr1.trans dr2).mutF fD mu, src2.upd nd nc, ys ++ [y], bs ++ [b], upd_same, Paired.snoc (Paired.mapP pr fun _ _ q => hR _ _ _ _ _ xb (hRd _ _ _ _ _ dr2 q)) (hR _ _ _ _ _ xb r), Paired.snoc_take pg ha hg⟩
  have h1 := Paired.length pr
  have h2 := Paired.length pg
  rw [List.length_take] at h2
  omega
/-- over a list -/
theorem lcLD (as : List α) (IR : Hp → V → α → Prop) (R : Addr → Hp → V → β → Prop) (G : α → β → Prop) (src : Src H d c)
    (h : ∀ Q' : VK, (∀ a xs, a ≠ d → a ≠ c → H a = some (.lst xs) → Paired (IR H) xs as → Q' (.ref a) H) → tl σ H Q') (hl : as.length ≤ 100000) (hIR : ∀ H' v b, Dr T d c H H' → IR H v b → IR H' v b)
    (hR : ∀ D H H' v b, XBut D H H' → R D H v b → R D H' v b) (hRd : ∀ D H1 H' v b, Dr T d c H1 H' → R D H1 v b → R D H' v b)
    (hs : ∀ D (i : Nat) x a H1, as[i]? = some a → Fresh H D → Dr T d c H H1 → Src H1 d c → IR H1 x a → (∃ ys, H1 D = some (.lst ys)) → TurnD T d c g te vs σ (R D) (G a) x H1)
    (hd : ∀ D H1 ys bs, Fresh H D → D ≠ d → D ≠ c → Dr T d c H H1 → Src H1 d c → H1 D = some (.lst ys) → Paired (R D H1) ys bs → Paired G as bs → Q (.ref D) H1) : tLc (iList K tl) g tYes te vs σ H Q := by
  refine h _ fun a xs nad nac ha pi => ?_
  have hn : xs.length = as.length := Paired.length pi
  refine ⟨a, rfl, ⟨xs, .inl (.inl ha)⟩, fun D hD => ?_⟩
  have fD : Fresh H D := fun o ho => by rw [hD] at ho; cases ho
  obtain ⟨nDd, nDc⟩ := src.ned hD
  have e0 : Sm T H (upd H D (.lst [])) := Sm.new hD
  refine lc_it (walk_list (K := K) (a := a) (xs := xs)) (fun i H1 => Dr T d c H H1 ∧ Src H1 d c ∧ ∃ ys bs, H1 D = some (.lst ys) ∧ Paired (R D H1) ys bs ∧ Paired G (as.take i) bs) ⟨Dr.of e0, src.sm e0, [], [], upd_same, .nil, .nil⟩ (fun i H1 _ p => .inl (.inl (p.1.lst nad nac ha))) (fun i x H1 H2 hi p y => ?_) (fun H1 p => ?_)
  · obtain ⟨dr1, src1, ys, bs, hDs, pr, pg⟩ := p
    obtain ⟨rfl, hx⟩ := y
    obtain ⟨b, hb, td⟩ := Paired.at_ pi hx
    exact hs D i x b _ hb fD dr1 src1 (hIR _ _ _ dr1 td) ⟨ys, hDs⟩ _ fun y b' H3 hg dr2 src2 r => draw_step R G fD nDd nDc hR hRd dr1 hDs pr pg hb hl hg dr2 src2 r
  · obtain ⟨dr1, src1, ys, bs, hDs, pr, pg⟩ := p
    rw [hn, List.take_length] at pg
    exact hd D H1 ys bs fD nDd nDc dr1 src1 hDs pr pg
/-- over a tuple that is just laid -/
theorem lcTD (as : List α) (en : α → NestedKey) (R : Addr → Hp → V → β → Prop) (G : α → β → Prop) (src : Src H d c)
    (h : ∀ Q' : VK, (∀ v H', Sm T H H' → Tp H' v (.tup (as.map en)) → Q' v H') → tl σ H Q') (hl : as.length ≤ 100000)
    (hR : ∀ D H H' v b, XBut D H H' → R D H v b → R D H' v b) (hRd : ∀ D H1 H' v b, Dr T d c H1 H' → R D H1 v b → R D H' v b)
    (hs : ∀ D (i : Nat) x a H1, as[i]? = some a → Fresh H D → Dr T d c H H1 → Src H1 d c → Tp H1 x (en a) → (∃ ys, H1 D = some (.lst ys)) → TurnD T d c g te vs σ (R D) (G a) x H1)
    (hd : ∀ D H1 ys bs, Fresh H D → D ≠ d → D ≠ c → Dr T d c H H1 → Src H1 d c → H1 D = some (.lst ys) → Paired (R D H1) ys bs → Paired G as bs → Q (.ref D) H1) : tLc (iTup K tl) g tYes te vs σ H Q := by
  refine h _ fun v H0 e1 tv => ?_
  obtain ⟨a, xs, rfl, ha, tx⟩ := tv.tup_inv
  have hn : xs.length = as.length := by rw [tx.length, List.length_map]
  have src0 := src.sm e1
  refine ⟨a, rfl, ⟨xs, .inl ha⟩, fun D hD => ?_⟩
  have fD : Fresh H D := fresh_of e1 hD
  obtain ⟨nDd, nDc⟩ := src0.ned hD
  have e0 : Sm T H0 (upd H0 D (.lst [])) := Sm.new hD
  refine lc_it (walk_tup (K := K) (a := a) (xs := xs)) (fun i H1 => TS H0 H1 ∧ Dr T d c H H1 ∧ Src H1 d c ∧ ∃ ys bs, H1 D = some (.lst ys) ∧ Paired (R D H1) ys bs ∧ Paired G (as.take i) bs) ⟨e0.ts, Dr.of (e1.trans e0), src0.sm e0, [], [], upd_same, .nil, .nil⟩ (fun i H1 _ p => .inl (p.1 _ _ ha)) (fun i x H1 H2 hi p y => ?_) (fun H1 p => ?_)
  · obtain ⟨ts1, dr1, src1, ys, bs, hDs, pr, pg⟩ := p
    obtain ⟨rfl, hx⟩ := y
    obtain ⟨dd, hb, td⟩ := tx.at_ hx
    rw [List.getElem?_map] at hb
    obtain ⟨b, hb2, rfl⟩ := Option.map_eq_some_iff.mp hb
    refine hs D i x b _ hb2 fD dr1 src1 (Tp.ts ts1 _ _ td) ⟨ys, hDs⟩ _ fun y b' H3 hg dr2 src2 r => ?_
    obtain ⟨acc, h1, h2, h3⟩ := draw_step R G fD nDd nDc hR hRd dr1 hDs pr pg hb2 hl hg dr2 src2 r
    have mu : Mu (H3 D) := by rw [h1]; exact mu_lst
    exact ⟨acc, h1, h2, ts1.trans (dr2.ts.trans (TS.mu mu)), h3⟩
  · obtain ⟨ts1, dr1, src1, ys, bs, hDs, pr, pg⟩ := p
    rw [hn, List.take_length] at pg
    exact hd D H1 ys bs fD nDd nDc dr1 src1 hDs pr pg
theorem paired_all {α β : Type} {G : β → Prop} : ∀ {us : List α} {bs : List β}, Paired (fun _ b => G b) us bs → ∀ b ∈ bs, G b
  | _, _, .nil, _, hb => by cases hb
  | _, _, .cons r t, b, hb => by
    rcases List.mem_cons.mp hb with rfl | hb
    · exact r
    · exact paired_all t b hb
/-- over a range whose end is drawn -/
theorem lcRD (Np : Nat → Prop) (R : Addr → Hp → V → β → Prop) (G : β → Prop)
    (h : ∀ Q' : List V → Hp → Prop, (∀ (n : Nat) H1, Np n → Dr T d c H H1 → Src H1 d c → Q' [.int (n : Int)] H1) → ta σ H Q') (hN : ∀ n, Np n → n ≤ 1000)
    (hR : ∀ D H H' v b, XBut D H H' → R D H v b → R D H' v b) (hRd : ∀ D H1 H' v b, Dr T d c H1 H' → R D H1 v b → R D H' v b)
    (hs : ∀ D (i : Nat) H1, Fresh H D → Dr T d c H H1 → Src H1 d c → (∃ ys, H1 D = some (.lst ys)) → TurnD T d c g te vs σ (R D) G (.int (i : Int)) H1)
    (hd : ∀ D H1 ys bs, Fresh H D → D ≠ d → D ≠ c → Dr T d c H H1 → Src H1 d c → H1 D = some (.lst ys) → Paired (R D H1) ys bs → Np bs.length → (∀ b ∈ bs, G b) → Q (.ref D) H1) : tLc (iRng1 ta) g tYes te vs σ H Q := by
  refine h _ fun n H0 np dr0 src0 => ?_
  have hn := hN n np
  refine ⟨n, rfl, by omega, by omega, fun D hD => ?_⟩
  rw [show ((n : Nat) : Int).toNat = n from Int.toNat_natCast n]
  have fD : Fresh H D := dr0.fresh src0 hD
  obtain ⟨nDd, nDc⟩ := src0.ned hD
  have e0 : Sm T H0 (upd H0 D (.lst [])) := Sm.new hD
  refine lc_it (walk_range (lo := 0) (n := n)) (fun i H1 => Dr T d c H H1 ∧ Src H1 d c ∧ ∃ ys bs, H1 D = some (.lst ys) ∧ Paired (R D H1) ys bs ∧ Paired (fun _ b => G b) ((List.replicate n ()).take i) bs) ⟨dr0.trans (Dr.of e0), src0.sm e0, [], [], upd_same, .nil, .nil⟩ (fun _ _ _ _ => trivial) (fun i x H1 H2 hi p y => ?_) (fun H1 p => ?_)
  · obtain ⟨dr1, src1, ys, bs, hDs, pr, pg⟩ := p
    obtain ⟨rfl, rfl⟩ := y
    have e0 : V.int ((0 : Int) + (i : Int)) = V.int (i : Int) := by rw [Int.zero_add]
    show g (V.int ((0 : Int) + (i : Int))) _ _ _
    rw [e0]
    exact hs D i _ fD dr1 src1 ⟨ys, hDs⟩ _ fun y b' H3 hg dr2 src2 r => draw_step R (fun _ b => G b) fD nDd nDc hR hRd dr1 hDs pr pg (a := ()) (by rw [List.getElem?_replicate, if_pos hi]) (by rw [List.length_replicate]; omega) hg dr2 src2 r
  · obtain ⟨dr1, src1, ys, bs, hDs, pr, pg⟩ := p
    have hl := Paired.length pg
    rw [List.length_take, List.length_replicate, Nat.min_self] at hl
    have hall := paired_all pg
    exact hd D H1 ys bs fD nDd nDc dr1 src1 hDs pr (by rw [← hl]; exact np) hall
/-- over zip of two lists -/
theorem lcZ {γ : Type} (as : List α) (bs : List β) (I1 : Hp → V → α → Prop) (I2 : Hp → V → β → Prop) (R : Addr → Hp → V → γ → Prop) (F : α → β → γ) {tt : TT} (hlen : bs.length = as.length) (hl : as.length ≤ 100000)
    (h : ∀ Q' : List V → Hp → Prop, (∀ a b xs ys, H a = some (.lst xs) → H b = some (.lst ys) → Paired (I1 H) xs as → Paired (I2 H) ys bs → Q' [.ref a, .ref b] H) → ta σ H Q')
    (hI1 : ∀ H H' v b, Sm T H H' → I1 H v b → I1 H' v b) (hI2 : ∀ H H' v b, Sm T H H' → I2 H v b → I2 H' v b) (hR : ∀ D H H' v b, XBut D H H' → R D H v b → R D H' v b)
    (hs : ∀ D (i : Nat) p x y a b H1, as[i]? = some a → bs[i]? = some b → Fresh H D → Sm T H H1 → I1 H1 x a → I2 H1 y b → H1 p = some (.tup [x, y]) → (∃ ys, H1 D = some (.lst ys)) → Turn' T g tt te vs σ (R D) (some (F a b)) (.ref p) H1)
    (hd : ∀ D H1 zs, Fresh H D → Sm T H H1 → H1 D = some (.lst zs) → Paired (R D H1) zs ((List.range as.length).filterMap fun i => as[i]?.bind fun a => bs[i]?.map (F a)) → Q (.ref D) H1) : tLc (iZip K ta) g tt te vs σ H Q := by
  refine h _ fun a b xs ys ha hb pa pb => ?_
  have hn : xs.length = as.length := Paired.length pa
  have hm : ys.length = bs.length := Paired.length pb
  refine ⟨a, b, xs, ys, rfl, .inl (.inl ha), .inl (.inl hb), fun D hD => ?_⟩
  have fD : Fresh H D := fun o ho => by rw [hD] at ho; cases ho
  refine lc_dat (T := T) (walk_zip (K := K) (a := a) (b := b) (xs := xs) (ys := ys) (n := as.length) (by omega)) (R D) (fun i => as[i]?.bind fun a => bs[i]?.map (F a)) hD (fun H' e => ⟨.inl (.inl (e.lst ha)), .inl (.inl (e.lst hb))⟩) hl (hR D) (fun i x H2 H2' hi e2 hDs y Qy Qn hy hnn => ?_) (fun H' ys e2 hD' pr => hd D H' ys fD e2 hD' pr)
  obtain ⟨p, x1, x2, rfl, hp, rfl, z1, z2⟩ := y
  obtain ⟨u, hu, tu⟩ := Paired.at_ pa z1
  obtain ⟨v, hv, tv⟩ := Paired.at_ pb z2
  have e3 : Sm T H2 (upd H2 p (.tup [x1, x2])) := Sm.new hp
  obtain ⟨ys0, hy0⟩ := hDs
  have ef : (as[i]?.bind fun a => bs[i]?.map (F a)) = some (F u v) := by rw [hu, hv]; rfl
  exact hs D i p x1 x2 u v _ hu hv fD (e2.trans e3) (hI1 _ _ _ _ (e2.trans e3) tu) (hI2 _ _ _ _ (e2.trans e3) tv) upd_same ⟨ys0, e3.lst hy0⟩ Qy Qn (fun y b' H3 h1 h2 h3 => hy y b' H3 (ef.trans h1) (e3.trans h2) h3) (fun H3 h1 h2 => hnn H3 (ef.trans h1) (e3.trans h2))
end
end K67
end
/-! ## K67LS -/
section
set_option maxHeartbeats 8000000
/-! K67LS: law's statements, as they are read -/
namespace K67
open PySem PySem.Spec PyProof.Rows L2 LamX NdefX
section
variable (X : Cx) (P : Program) (w : World) (K : PySem.W.Frag) (T : List (Addr × Str)) (q : Addr)
def rdJoin : L2.TS := tAsg (tCall (sp_draw_join T) [] E0 (tCons (tVar 1) tNil)) (gLst K 6 (gCons (gName 3) (gCons (gName 4) (gCons (gName 5) (gCons (gName 6) (gCons (gName 7) (gCons (gName 8) gNil)))))))
def rdSides : L2.TS := tAsg (tLc (iTup K (tTup (tCons (tVar 3) (tCons (tVar 4) tNil)))) (gName 20) tYes
  (tLc (iRng1 (tCons (tOp (rI0 fun i j => V.int (i + j)) (tC (V.int 1)) (tCall (sp_pick T) [] E0 (tCons (tVar 1) (tCons (tC (V.int 6)) tNil)))) tNil)) (gName 14) tYes
    (tCall (sp_draw_row T) [] E0 (tCons (tVar 1) (tCons (tVar 20) (tCons (tC (V.int 0)) tNil)))) [14]) [20]) (gName 9)
def rdAdd : L2.TS := tAsg (tOp rCat (tOp (rIxL K) (tVar 9) (tC (V.int 0))) (tSl (rSlL K) (tOp (rIxL K) (tVar 9) (tC (V.int 0))) tNoPart (tPart (tCall (sp_pick T) [] E0 (tCons (tVar 1) (tCons (tC (V.int 2)) tNil)))))) (gSub (tVar 9) (tC (V.int 0)) rSetL)
def rdParts : L2.TS := tAsg (tLc (iList K (tVar 9)) (gName 21) tYes (tCall (sp_draw_entries T) [] E0 (tCons (tVar 1) (tCons (tVar 21) tNil))) [21]) (gName 10)
def rdQuery : L2.TS := tAsg (tTup (tCons (tTup (tCons (tC (V.str (Str.ofString "x"))) (tCons (tTup (tCons (tC (V.str (Str.ofString "source"))) (tCons (tVar 3) tNil))) tNil)))
  (tCons (tTup (tCons (tC (V.str (Str.ofString "y"))) (tCons (tTup (tCons (tC (V.str (Str.ofString "source"))) (tCons (tVar 4) tNil))) tNil)))
    (tCons (tTup (tCons (tC (V.str (Str.ofString "j"))) (tCons (tTup (tCons (tC (V.str (Str.ofString "join"))) (tCons (tC (V.str (Str.ofString "x"))) (tCons (tC (V.str (Str.ofString "y"))) (tCons (tVar 5) (tCons (tVar 6) (tCons (tVar 7) tNil))))))) tNil))) tNil)))) (gName 11)
def rdTold : L2.TS := tPar 11 12 (tCons (tOp (rCatA K) (tVar 11) (tTup (tCons (tTup (tCons (tC (V.str (Str.ofString "out"))) (tCons (tC (V.str (Str.ofString "j"))) tNil))) tNil)))
  (tCons (tDisp [(tC (V.str (Str.ofString "x")), tTup (tCons (tOp (rIxL K) (tVar 10) (tC (V.int 0))) tNil)), (tC (V.str (Str.ofString "y")), tTup (tCons (tOp (rIxL K) (tVar 10) (tC (V.int 1))) tNil))]) tNil))
def rdDue : L2.TS := tAsg (tCall (sp_every T) [] E0 (tCons (tVar 8) (tCons (tOp (rIxL K) (tVar 9) (tC (V.int 0))) (tCons (tOp (rIxL K) (tVar 9) (tC (V.int 1))) tNil)))) (gName 13)
def rdIf1 : L2.TS := L2.tIfS (tTest (tOp rNeK (tCall (sp_join_of T) [] E0 (tCons (tVar 3) (tCons (tVar 4) (tCons (tVar 5) (tCons (tVar 6) (tCons (tVar 7) tNil)))))) (tVar 8))) (tRet (tC (V.bl false))) tNext
def rdIf2 : L2.TS := L2.tIfS (tTest (tOp rNeK (tCall (sp_columns_of T) [] E0 (tCons (tVar 11) (tCons (tC (V.str (Str.ofString "j"))) tNil))) (tCall (sp_joined T) [] E0 (tCons (tVar 3) (tCons (tVar 4) (tCons (tVar 5) tNil)))))) (tRet (tC (V.bl false))) tNext
def rdIf3 : L2.TS := L2.tIfS (tTest (tOp (rNeDN2 X) (tLst (tCons (tCall (sp_meaning P w T) [] E0 (tCons (tVar 11) (tCons (tVar 12) tNil))) (tCons (tCall (sp_whole P w T) [] E0 (tCons (tVar 11) (tCons (tVar 12) tNil))) tNil)))
  (tOp rRep (tLst (tCons (tCall (sp_bag P w T) [] E0 (tCons (tVar 13) tNil)) tNil)) (tC (V.int 2))))) (tRet (tC (V.bl false))) tNext
def rdIf4 : L2.TS := L2.tIfS (tTest (tOp rNeLK (tLc (iList K (tCall (sp_rwl T) [] E0 (tCons (tVar 11) (tCons (tVar 12) tNil)))) (gTup K 2 (gCons (gName 24) (gCons (gName 25) gNil))) tYes (tVar 24) [24, 25]) (tVar 13))) (tRet (tC (V.bl false))) tNext
def rdThings : L2.TS := tAsg (tCall (sp_things T) [] E0 (tCons (tCall (sp_weave T) [] E0 (tCons (tVar 1) (tCons (tVar 10) tNil))) tNil)) (gName 15)
def rdFound : L2.TS := tAsg (tOp (rIxT K) (tCall (sp_woven T) [] E0 (tCons (tVar 8) (tCons (tVar 15) tNil))) (tC (V.int 1))) (gName 16)
def rdIf5 : L2.TS := L2.tIfS (tOr (tTest (tOp rNeLK (tCKw (rSortK T q rowIR lgivenK) (tCons (tVar 16) tNil) (tCons (tC (V.ref q)) tNil)) (tVar 13)))
  (tTest (tOp (fun x y H Q => y = V.non ∧ Q (V.bl !decide (x = V.non)) H) (tCall (sp_judge T) [] E0 (tCons (tVar 8) (tCons (tVar 15) (tCons (tVar 16) tNil)))) (tC V.non)))) (tRet (tC (V.bl false))) tNext
def rdIf6 : L2.TS := L2.tIfS (tTest (tOp rNeLK (tCall (sp_all_pairs T) [] E0 (tCons (tVar 8) (tCons (tVar 15) tNil))) (tVar 13))) (tRet (tC (V.bl false))) tNext
def rdTurns : L2.TS := tFor (iRng1 (tCons (tC (V.int 2)) tNil)) (gName 14) (tSeq (rdThings T) (tSeq (rdFound K T) (tSeq (rdIf5 T q) (rdIf6 T))))
def rdEnds : L2.TS := tAsg (tLc (iList K (tVar 10)) (gName 22) tYes (tCall (sp_pick T) [] E0 (tCons (tVar 1) (tCons (tOp (rI0 fun i j => V.int (i + j)) (tCB (rLenS K) (tCons (tVar 22) tNil)) (tC (V.int 1))) tNil))) [22]) (gName 17)
def rdShort : L2.TS := tAsg (tLc (iZip K (tCons (tVar 10) (tCons (tVar 17) tNil))) (gTup K 2 (gCons (gName 22) (gCons (gName 23) gNil))) tYes
  (tLc (iTup K (tSl (rSlA K) (tVar 22) tNoPart (tPart (tVar 23)))) (gName 26) (tTest (tOp rEq (tOp (rIxT K) (tVar 26) (tC (V.int 0))) (tC (V.str (Str.ofString "row"))))) (tSl (rSlA K) (tVar 26) (tPart (tC (V.int 1))) tNoPart) [26]) [22, 23]) (gName 18)
def rdHere : L2.TS := tAsg (tCall (sp_cut P w T) [] E0 (tCons (tVar 12) (tCons (tDispN P w [(tTup (tCons (tC (V.str (Str.ofString "x"))) (tCons (tC (V.int 0)) tNil)), tOp (rIxL K) (tVar 17) (tC (V.int 0))), (tTup (tCons (tC (V.str (Str.ofString "y"))) (tCons (tC (V.int 0)) tNil)), tOp (rIxL K) (tVar 17) (tC (V.int 1)))]) tNil))) (gName 19)
def rdLast : L2.TS := L2.tIfS (tTest (tOp (rNeDN X) (tCall (sp_meaning P w T) [] E0 (tCons (tVar 11) (tCons (tVar 19) tNil)))
  (tCall (sp_bag P w T) [] E0 (tCons (tCall (sp_every T) [] E0 (tCons (tVar 8) (tCons (tOp (rIxL K) (tVar 18) (tC (V.int 0))) (tCons (tOp (rIxL K) (tVar 18) (tC (V.int 1))) tNil)))) tNil)))) (tRet (tC (V.bl false))) tNext
/-- a lap of law -/
def rdLap : L2.TS := tSeq (rdJoin K T) (tSeq (rdSides K T) (tSeq (rdAdd K T) (tSeq (rdParts K T) (tSeq rdQuery (tSeq (rdTold K) (tSeq (rdDue K T) (tSeq (rdIf1 T) (tSeq (rdIf2 T) (tSeq (rdIf3 X P w T) (tSeq (rdIf4 K T) (tSeq (rdTurns K T q) (tSeq (rdEnds K T) (tSeq (rdShort K) (tSeq (rdHere P w K T) (rdLast X P w K T)))))))))))))))
def rdLaw : L2.TS := tSeq (tAsg (tCall (sp_open K T) [] E0 (tCons (tVar 0) tNil)) (gName 1)) (tSeq (tFor (iRng1 (tCons (tC (V.int 2)) tNil)) (gName 2) (rdLap X P w K T q)) (tRet (tC (V.bl true))))
def sp_law : Sp := fun vs H Q _ => ∃ (a : Addr) (ns : List Int), vs = [.ref a] ∧ SqL K H a (ns.map V.int) ∧ ns.length ≤ 63 ∧ Tabs T H ∧ ∀ H', Q (.bl true) H'
end
end K67
end
/-! ## K67LA -/
section
set_option maxHeartbeats 8000000
/-! K67LA: law's statements, one by one: the join drawn, its sides, its parts -/
namespace K67
open PySem PySem.Spec PyProof.Rows L2 LamX NdefX
local macro_rules | `(tactic| walk_at "sm") => `(tactic| first | assumption | exact Sm.refl _ _ | (refine Sm.trans ?_ (by assumption); walk_at "sm"))
local macro_rules | `(tactic| walk_at "ts") => `(tactic| first | assumption | exact TS.refl _ | (refine TS.trans ?_ (by assumption); walk_at "ts") | (refine TS.trans ?_ (Sm.ts (by assumption)); walk_at "ts"))
local macro_rules | `(tactic| walk_at "tp") => `(tactic| first | assumption | exact Tp.int _ | exact Tp.str _ | exact Tp.non | (refine Tp.ts (H := ?_) ?_ _ _ (by assumption); walk_at "ts"))
local macro_rules | `(tactic| walk_at "tps") => `(tactic| first | assumption | exact Tps.nil | (refine Tps.cons ?_ ?_; · walk_at "tp"; · walk_at "tps") | (refine Tps.ts (H := ?_) ?_ _ _ (by assumption); walk_at "ts"))
local macro_rules | `(tactic| walk_at "rd") => `(tactic| try simp only [rMax2, and_assoc, tYes, tSeq, tIfS, tRet, tNext, tTest, tB, tOp, tUn, tVar, tC, tTup, tLst, tCons, tNil, tIf, tCB, tCall, tBM, tBM0, tAsg, gName, gCons, gNil, gSub, tDrop, tPar, tPar3, tAug, tAnd, tOr, tNot, tAndV, tOrV, tNotV, tChain, tSl, tPart, tNoPart, rI0, rI, rU, rEq, rNe, L2.start, wipe, sz0, sz1, sz2, sz3, sz4, sz5, sz6, List.map_cons, List.map_nil, List.length_cons, List.length_nil, List.cons_append, List.nil_append, List.append_nil, List.getElem?_cons_zero, List.getElem?_cons_succ, List.set_cons_zero, List.set_cons_succ, List.replicate_zero, List.replicate_succ, Option.some.injEq, V.bl.injEq, V.int.injEq, V.str.injEq, List.cons.injEq, and_true, true_and, exists_eq_left', exists_eq_left, exists_eq', exists_eq, exists_and_left, Nat.reduceSub, Nat.reduceAdd, Nat.reduceLeDiff, decide_true, decide_false, if_true, if_false, Bool.false_eq_true, reduceIte])
local macro_rules | `(tactic| walk_at "rd2") => `(tactic| try simp only [tDGet, sDPut, tDNewK, tNNew, tNGet2, tNSetd, tNGet, sNPut, tTupF, tCKw, tDead, sDead, tDispN, tPairs, StX.tStar, rNeDN, rNeDN2, rMax2, and_assoc, tYes, tSeq, tIfS, tRet, tNext, tTest, tB, tOp, tUn, tVar, tC, tTup, tLst, tCons, tNil, tIf, tCB, tCall, tBM, tBM0, tAsg, gName, gCons, gNil, gSub, tDrop, tPar, tPar3, tAug, tAnd, tOr, tNot, tAndV, tOrV, tNotV, tChain, tSl, tPart, tNoPart, rI0, rI, rU, rEq, rNe, L2.start, wipe, sz0, sz1, sz2, sz3, sz4, sz5, sz6, List.map_cons, List.map_nil, List.length_cons, List.length_nil, List.cons_append, List.nil_append, List.append_nil, List.getElem?_cons_zero, List.getElem?_cons_succ, List.set_cons_zero, List.set_cons_succ, List.replicate_zero, List.replicate_succ, Option.some.injEq, V.bl.injEq, V.int.injEq, V.str.injEq, List.cons.injEq, and_true, true_and, exists_eq_left', exists_eq_left, exists_eq', exists_eq, exists_and_left, Nat.reduceSub, Nat.reduceAdd, Nat.reduceLeDiff, decide_true, decide_false, if_true, if_false, Bool.false_eq_true, reduceIte])

/-- rows in a list at an address of its own -/
def LsD (d c D : Addr) (H : Hp) (v : V) (l : List Row) : Prop := ∃ a xs, v = .ref a ∧ a ≠ D ∧ a ≠ d ∧ a ≠ c ∧ H a = some (.lst xs) ∧ Tps H xs (l.map Row.k)
theorem lsd_xb {d c : Addr} : ∀ (D : Addr) (H H' : Hp) (v : V) (l : List Row), XBut D H H' → LsD d c D H v l → LsD d c D H' v l := fun D H H' v l xb h => let ⟨a, xs, e, n, n1, n2, ha, t⟩ := h
  ⟨a, xs, e, n, n1, n2, xb.2 a _ n ha (fun ps z => by cases z), Tps.ts xb.1 _ _ t⟩
theorem lsd_dr {T : List (Addr × Str)} {d c : Addr} : ∀ (D : Addr) (H H' : Hp) (v : V) (l : List Row), Dr T d c H H' → LsD d c D H v l → LsD d c D H' v l := fun D H H' v l e h => let ⟨a, xs, e1, n, n1, n2, ha, t⟩ := h
  ⟨a, xs, e1, n, n1, n2, e.lst n1 n2 ha, Tps.ts e.ts _ _ t⟩
theorem rows_pr {H : Hp} : ∀ {ys : List V} {ps : List Row}, Paired (fun v p => Tp H v (Row.k p)) ys ps → Tps H ys (ps.map Row.k)
  | _, _, .nil => .nil
  | _, _, .cons r t => .cons r (rows_pr t)
section
variable {X : Cx} {P : Program} {w : World} {K : PySem.W.Frag} {T : List (Addr × Str)} {D : Ends} {sc d c : Addr} {H : Hp} {z2 z3 z4 z5 z6 z7 z8 z9 z10 z11 z12 z13 z14 z15 z16 z17 z18 z19 z20 z21 z22 z23 z24 z25 z26 : Option V}
theorem w_join (src : Src H d c)
    (hk : ∀ (vl vr vk vp : V) (q : Qry) H', Dr T d c H H' → Src H' d c → Tp H' vl (colsK q.L) → Tp H' vr (colsK q.R) → Tp H' vk (.tup (txts q.keys)) → Tp H' vp (joinJ q).k → DrawnQ q → D.nx [some (V.ref sc), some (V.ref d), z2, some (vl), some (vr), some (vk), some (V.int q.back), some (V.int q.ahead), some (vp), z9, z10, z11, z12, z13, z14, z15, z16, z17, z18, z19, z20, z21, z22, z23, z24, z25, z26] H') :
    rdJoin K T D [some (V.ref sc), some (V.ref d), z2, z3, z4, z5, z6, z7, z8, z9, z10, z11, z12, z13, z14, z15, z16, z17, z18, z19, z20, z21, z22, z23, z24, z25, z26] H := by
  unfold rdJoin
  walk_at "rd2"
  refine ⟨d, c, rfl, src, fun a vl vr vk vp q H' dr src' ha tl tr tk tp dq => ?_⟩
  refine ⟨a, _, rfl, .inl (.inl ha), rfl, ?_⟩
  walk_at "rd2"
  exact hk vl vr vk vp q H' dr src' tl tr tk tp dq
variable {vl vr vk vp : V} {q : Qry}
theorem w_sides (src : Src H d c) (dq : DrawnQ q) (tl : Tp H vl (colsK q.L)) (tr : Tp H vr (colsK q.R))
    (hk : ∀ (sa s0 s1 : Addr) (x0 x1 : List V) (L R : List Row) H', Dr T d c H H' → Src H' d c → sa ≠ d → sa ≠ c → H' sa = some (.lst [.ref s0, .ref s1]) → s0 ≠ d → s0 ≠ c → s1 ≠ d → s1 ≠ c → H' s0 = some (.lst x0) → H' s1 = some (.lst x1) → s0 ≠ sa → s1 ≠ sa → Tps H' x0 (L.map Row.k) → Tps H' x1 (R.map Row.k) → (∀ r ∈ L, TyD q.L r) → (∀ r ∈ R, TyD q.R r) → L.length ≤ 6 → R.length ≤ 6 → D.nx [some (V.ref sc), some (V.ref d), z2, some (vl), some (vr), some (vk), some (V.int q.back), some (V.int q.ahead), some (vp), some (V.ref sa), z10, z11, z12, z13, z14, z15, z16, z17, z18, z19, z20, z21, z22, z23, z24, z25, z26] H') :
    rdSides K T D [some (V.ref sc), some (V.ref d), z2, some (vl), some (vr), some (vk), some (V.int q.back), some (V.int q.ahead), some (vp), z9, z10, z11, z12, z13, z14, z15, z16, z17, z18, z19, z20, z21, z22, z23, z24, z25, z26] H := by
  unfold rdSides
  walk_at "rd2"
  refine lcTD (T := T) (d := d) (c := c) [q.L, q.R] colsK (LsD d c) (fun cs l => (∀ r ∈ l, TyD cs r) ∧ l.length ≤ 6) src (fun Q' k' => ?_) (by show 2 ≤ 100000; decide) lsd_xb lsd_dr (fun D i x cs H1 hi fD dr1 src1 tx hDs Qy hq => ?_) (fun D H1 ys bs fD nDd nDc dr1 src1 hD pr pg => ?_)
  · walk_at "rd2"
    exact tup_d (T := T) (.cons tl (.cons tr .nil)) k'
  · walk_at "rd2"
    have hcs : cs.length ≤ 10 := by
      have := List.mem_of_getElem? hi
      simp only [List.mem_cons, List.not_mem_nil, or_false] at this
      rcases this with rfl | rfl
      · exact dq.ok.l
      · exact dq.ok.r
    refine lcRD (T := T) (d := d) (c := c) (fun n => n ≤ 6) (fun _ H v r => Tp H v (Row.k r)) (TyD cs) (fun Q' k' => ?_) (fun n hn => by omega) (fun _ _ _ _ _ xb t => Tp.ts xb.1 _ _ t) (fun _ _ _ _ _ e t => Tp.ts e.ts _ _ t) (fun D2 j H2 fD2 dr2 src2 hDs2 Qz hz => ?_) (fun D2 H2 ys2 bs2 fD2 n2d n2c dr2 src2 hD2 pr2 hn2 hg2 => ?_)
    · walk_at "rd2"
      refine ⟨d, c, 6, rfl, src1, by decide, fun n H2 dr2 src2 hn => ⟨_, rfl, ?_⟩⟩
      rw [show (1 + (n : Int)) = ((1 + n : Nat) : Int) by omega]
      exact k' (1 + n) H2 (by omega) dr2 src2
    · walk_at "rd2"
      exact ⟨d, c, x, cs, 0, rfl, src2, Tp.ts dr2.ts _ _ tx, hcs, fun v r H' dr3 src3 tr3 ro => hz v r H' ro dr3 src3 tr3⟩
    · refine hq (.ref D2) bs2 H2 ⟨hg2, hn2⟩ dr2 src2 ⟨D2, ys2, rfl, fun z => ?_, n2d, n2c, hD2, rows_pr pr2⟩
      obtain ⟨ys0, hys0⟩ := hDs
      subst z
      obtain ⟨ps, hps⟩ := fD2 _ hys0
      cases hps
  · cases pg with
    | cons g0 pg =>
      cases pg with
      | cons g1 pg =>
        cases pg
        cases pr with
        | cons r0 pr =>
          cases pr with
          | cons r1 pr =>
            cases pr
            obtain ⟨s0, x0, rfl, n0, n0d, n0c, h0, t0⟩ := r0
            obtain ⟨s1, x1, rfl, n1, n1d, n1c, h1, t1⟩ := r1
            walk_at "rd2"
            exact hk D s0 s1 x0 x1 _ _ H1 dr1 src1 nDd nDc hD n0d n0c n1d n1c h0 h1 n0 n1 t0 t1 g0.1 g1.1 g0.2 g1.2
variable {sa s0 s1 : Addr} {x0 x1 : List V} {L R : List Row}
theorem w_add (src : Src H d c) (nd : sa ≠ d) (nc : sa ≠ c) (hsa : H sa = some (.lst [.ref s0, .ref s1])) (n0d : s0 ≠ d) (n0c : s0 ≠ c) (n1d : s1 ≠ d) (n1c : s1 ≠ c) (h0 : H s0 = some (.lst x0)) (h1 : H s1 = some (.lst x1)) (n0 : s0 ≠ sa) (n1 : s1 ≠ sa) (t0 : Tps H x0 (L.map Row.k)) (t1 : Tps H x1 (R.map Row.k)) (gL : ∀ r ∈ L, TyD q.L r) (lL : L.length ≤ 6)
    (hk : ∀ (s2 : Addr) (x2 : List V) (L2 : List Row) H', TS H H' → (Tabs T H → Tabs T H') → Src H' d c → H' sa = some (.lst [.ref s2, .ref s1]) → s2 ≠ d → s2 ≠ c → s2 ≠ sa → H' s2 = some (.lst x2) → H' s1 = some (.lst x1) → Tps H' x2 (L2.map Row.k) → Tps H' x1 (R.map Row.k) → (∀ r ∈ L2, TyD q.L r) → L2.length ≤ 8 → D.nx [some (V.ref sc), some (V.ref d), z2, some (vl), some (vr), some (vk), some (V.int q.back), some (V.int q.ahead), some (vp), some (V.ref sa), z10, z11, z12, z13, z14, z15, z16, z17, z18, z19, z20, z21, z22, z23, z24, z25, z26] H') :
    rdAdd K T D [some (V.ref sc), some (V.ref d), z2, some (vl), some (vr), some (vk), some (V.int q.back), some (V.int q.ahead), some (vp), some (V.ref sa), z10, z11, z12, z13, z14, z15, z16, z17, z18, z19, z20, z21, z22, z23, z24, z25, z26] H := by
  unfold rdAdd
  walk_at "rd2"
  refine ⟨sa, _, 0, _, rfl, rfl, .inl (.inl hsa), atI_nat (j := 0) rfl, ?_⟩
  refine ⟨sa, _, 0, _, rfl, rfl, .inl (.inl hsa), atI_nat (j := 0) rfl, ?_⟩
  refine ⟨d, c, 2, rfl, src, by decide, fun n H1 dr1 src1 hn => ⟨_, rfl, ?_⟩⟩
  have h0' := dr1.lst n0d n0c h0
  have t0' := Tps.ts dr1.ts _ _ t0
  refine ⟨s0, x0, rfl, .inl (.inl h0'), fun p hp => ?_⟩
  rw [cut_take]
  have e2 : Sm T H1 (upd H1 p (.lst (x0.take n))) := Sm.new hp
  have h2 : (upd H1 p (.lst (x0.take n))) p = some (.lst (x0.take n)) := upd_same
  generalize upd H1 p (.lst (x0.take n)) = H2 at e2 h2
  have lx : x0.length ≤ 6 := by rw [t0.length, List.length_map]; exact lL
  have ltk : (x0.take n).length ≤ 6 := by rw [List.length_take]; omega
  refine ⟨s0, p, _, _, rfl, rfl, e2.lst h0', h2, sz_le' (by omega), fun s2 hs2 => ?_⟩
  have e3 : Sm T H2 (upd H2 s2 (.lst (x0 ++ x0.take n))) := Sm.new hs2
  have h3 : (upd H2 s2 (.lst (x0 ++ x0.take n))) s2 = some (.lst (x0 ++ x0.take n)) := upd_same
  have hsa2 : H2 sa = some (.lst [.ref s0, .ref s1]) := e2.lst (dr1.lst nd nc hsa)
  have n2 : s2 ≠ sa := fun z => by rw [z, hsa2] at hs2; cases hs2
  have src2 := src1.sm e2
  obtain ⟨n2d, n2c⟩ := src2.ned hs2
  generalize upd H2 s2 (.lst (x0 ++ x0.take n)) = H3 at e3 h3
  have e23 := e2.trans e3
  have hsa3 := e3.lst hsa2
  refine ⟨sa, _, 0, 0, rfl, rfl, hsa3, ixN_at (j := 0) (by show 0 < 2; decide), ?_⟩
  have mu : Mu (H3 sa) := by rw [hsa3]; exact mu_lst
  have ts4 : TS H3 (upd H3 sa (.lst (([V.ref s0, V.ref s1] : List V).set 0 (.ref s2)))) := TS.mu mu
  have ts14 : TS H1 (upd H3 sa (.lst (([V.ref s0, V.ref s1] : List V).set 0 (.ref s2)))) := e23.ts.trans ts4
  refine hk s2 (x0 ++ x0.take n) (L ++ L.take n) _ (dr1.ts.trans ts14) (fun t => tabs_upd mu (e23.2 (dr1.tabs t))) ((src1.sm e23).upd nd nc) upd_same n2d n2c n2 (by rw [upd_ne n2]; exact h3) (by rw [upd_ne n1]; exact e23.lst (dr1.lst n1d n1c h1)) ?_ (Tps.ts (dr1.ts.trans ts14) _ _ t1) ?_ ?_
  · rw [List.map_append, List.map_take]
    exact Tps.ts ts14 _ _ (t0'.append (t0'.take n))
  · intro r hr
    rcases List.mem_append.mp hr with hr | hr
    · exact gL r hr
    · exact gL r (List.mem_of_mem_take hr)
  · rw [List.length_append, List.length_take]
    omega
/-- a part drawn from rows -/
structure PartOf (l : List Row) (es : List En) : Prop where
  late : lateGo 0 es
  perm : (rowsOf es).Perm l
  len : es.length ≤ 2 * l.length
  mks : ∀ m, En.mark m ∈ es → 0 < m ∧ m < 100
theorem w_parts (src : Src H d c) (nd : sa ≠ d) (nc : sa ≠ c) (hsa : H sa = some (.lst [.ref s0, .ref s1])) (n0d : s0 ≠ d) (n0c : s0 ≠ c) (n1d : s1 ≠ d) (n1c : s1 ≠ c) (h0 : H s0 = some (.lst x0)) (h1 : H s1 = some (.lst x1)) (t0 : Tps H x0 (L.map Row.k)) (t1 : Tps H x1 (R.map Row.k)) (gL : ∀ r ∈ L, TyD q.L r) (gR : ∀ r ∈ R, TyD q.R r) (lL : L.length ≤ 8) (lR : R.length ≤ 8)
    (hk : ∀ (pa : Addr) (v0 v1 : V) (px py : List En) H', Dr T d c H H' → Src H' d c → pa ≠ d → pa ≠ c → H' pa = some (.lst [v0, v1]) → Tp H' v0 (partK px) → Tp H' v1 (partK py) → PartOf L px → PartOf R py → D.nx [some (V.ref sc), some (V.ref d), z2, some (vl), some (vr), some (vk), some (V.int q.back), some (V.int q.ahead), some (vp), some (V.ref sa), some (V.ref pa), z11, z12, z13, z14, z15, z16, z17, z18, z19, z20, z21, z22, z23, z24, z25, z26] H') :
    rdParts K T D [some (V.ref sc), some (V.ref d), z2, some (vl), some (vr), some (vk), some (V.int q.back), some (V.int q.ahead), some (vp), some (V.ref sa), z10, z11, z12, z13, z14, z15, z16, z17, z18, z19, z20, z21, z22, z23, z24, z25, z26] H := by
  unfold rdParts
  walk_at "rd2"
  refine lcLD (T := T) (d := d) (c := c) [L, R] (fun H v (l : List Row) => (∃ a xs, v = .ref a ∧ a ≠ d ∧ a ≠ c ∧ H a = some (.lst xs) ∧ Tps H xs (l.map Row.k)) ∧ l.length ≤ 8 ∧ ∀ r ∈ l, 0 ≤ r.t ∧ r.t < 100) (fun _ H v es => Tp H v (partK es)) PartOf src (fun Q' k' => ?_) (by show 2 ≤ 100000; decide) (fun H' v l e h => ?_) (fun _ _ _ _ _ xb t => Tp.ts xb.1 _ _ t) (fun _ _ _ _ _ e t => Tp.ts e.ts _ _ t) (fun D i x l H1 hi fD dr1 src1 tx hDs Qy hq => ?_) (fun D H1 ys bs fD nDd nDc dr1 src1 hD pr pg => ?_)
  · walk_at "rd2"
    refine k' sa [.ref s0, .ref s1] nd nc hsa (.cons ⟨⟨s0, x0, rfl, n0d, n0c, h0, t0⟩, lL, fun r hr => ?_⟩ (.cons ⟨⟨s1, x1, rfl, n1d, n1c, h1, t1⟩, lR, fun r hr => ?_⟩ .nil))
    · have := gL r hr
      exact ⟨this.1, by have := this.2.1; omega⟩
    · have := gR r hr
      exact ⟨this.1, by have := this.2.1; omega⟩
  · obtain ⟨⟨a, xs, e1, n1, n2, ha, t⟩, h3⟩ := h
    exact ⟨⟨a, xs, e1, n1, n2, e.lst n1 n2 ha, Tps.ts e.ts _ _ t⟩, h3⟩
  · walk_at "rd2"
    obtain ⟨⟨a, xs, rfl, n1, n2, ha, t⟩, h3, h4⟩ := tx
    refine ⟨d, c, a, xs, l, rfl, src1, ha, t, n2, by omega, h4, fun v es H2 dr2 src2 tv h5 h6 h7 h8 => ?_⟩
    exact hq v es H2 ⟨h5, h6, h7, h8⟩ dr2 src2 tv
  · cases pg with
    | cons g0 pg =>
      cases pg with
      | cons g1 pg =>
        cases pg
        cases pr with
        | cons r0 pr =>
          cases pr with
          | cons r1 pr =>
            cases pr
            walk_at "rd2"
            exact hk D _ _ _ _ H1 dr1 src1 nDd nDc hD r0 r1 g0 g1
end
end K67
end
/-! ## K67LB -/
section
set_option maxHeartbeats 8000000
/-! K67LB: law's statements: the query, the input, what is due, the four tests -/
namespace K67
open PySem PySem.Spec PyProof.Rows L2 LamX NdefX
local macro_rules | `(tactic| walk_at "sm") => `(tactic| first | assumption | exact Sm.refl _ _ | (refine Sm.trans ?_ (by assumption); walk_at "sm"))
local macro_rules | `(tactic| walk_at "ts") => `(tactic| first | assumption | exact TS.refl _ | (refine TS.trans ?_ (by assumption); walk_at "ts") | (refine TS.trans ?_ (Sm.ts (by assumption)); walk_at "ts"))
local macro_rules | `(tactic| walk_at "tp") => `(tactic| first | assumption | exact Tp.int _ | exact Tp.str _ | exact Tp.non | (refine Tp.ts (H := ?_) ?_ _ _ (by assumption); walk_at "ts"))
local macro_rules | `(tactic| walk_at "tps") => `(tactic| first | assumption | exact Tps.nil | (refine Tps.cons ?_ ?_; · walk_at "tp"; · walk_at "tps") | (refine Tps.ts (H := ?_) ?_ _ _ (by assumption); walk_at "ts"))
local macro_rules | `(tactic| walk_at "rd") => `(tactic| try simp only [rMax2, and_assoc, tYes, tSeq, tIfS, tRet, tNext, tTest, tB, tOp, tUn, tVar, tC, tTup, tLst, tCons, tNil, tIf, tCB, tCall, tBM, tBM0, tAsg, gName, gCons, gNil, gSub, tDrop, tPar, tPar3, tAug, tAnd, tOr, tNot, tAndV, tOrV, tNotV, tChain, tSl, tPart, tNoPart, rI0, rI, rU, rEq, rNe, L2.start, wipe, sz0, sz1, sz2, sz3, sz4, sz5, sz6, List.map_cons, List.map_nil, List.length_cons, List.length_nil, List.cons_append, List.nil_append, List.append_nil, List.getElem?_cons_zero, List.getElem?_cons_succ, List.set_cons_zero, List.set_cons_succ, List.replicate_zero, List.replicate_succ, Option.some.injEq, V.bl.injEq, V.int.injEq, V.str.injEq, List.cons.injEq, and_true, true_and, exists_eq_left', exists_eq_left, exists_eq', exists_eq, exists_and_left, Nat.reduceSub, Nat.reduceAdd, Nat.reduceLeDiff, decide_true, decide_false, if_true, if_false, Bool.false_eq_true, reduceIte])
local macro_rules | `(tactic| walk_at "rd2") => `(tactic| try simp only [tDGet, sDPut, tDNewK, tNNew, tNGet2, tNSetd, tNGet, sNPut, tTupF, tCKw, tDead, sDead, tDispN, tPairs, StX.tStar, rNeDN, rNeDN2, rMax2, and_assoc, tYes, tSeq, tIfS, tRet, tNext, tTest, tB, tOp, tUn, tVar, tC, tTup, tLst, tCons, tNil, tIf, tCB, tCall, tBM, tBM0, tAsg, gName, gCons, gNil, gSub, tDrop, tPar, tPar3, tAug, tAnd, tOr, tNot, tAndV, tOrV, tNotV, tChain, tSl, tPart, tNoPart, rI0, rI, rU, rEq, rNe, L2.start, wipe, sz0, sz1, sz2, sz3, sz4, sz5, sz6, List.map_cons, List.map_nil, List.length_cons, List.length_nil, List.cons_append, List.nil_append, List.append_nil, List.getElem?_cons_zero, List.getElem?_cons_succ, List.set_cons_zero, List.set_cons_succ, List.replicate_zero, List.replicate_succ, Option.some.injEq, V.bl.injEq, V.int.injEq, V.str.injEq, List.cons.injEq, and_true, true_and, exists_eq_left', exists_eq_left, exists_eq', exists_eq, exists_and_left, Nat.reduceSub, Nat.reduceAdd, Nat.reduceLeDiff, decide_true, decide_false, if_true, if_false, Bool.false_eq_true, reduceIte])

theorem depth_nums (l : List Nat) : NestedKey.depthAll (nums l) = 0 := by
  unfold nums
  induction l with
  | nil => rfl
  | cons n l ih =>
    rw [List.map_cons]
    show max 0 (NestedKey.depthAll _) = 0
    rw [ih]
    rfl
theorem depth_row {r : Row} (h : r.vs.all atomB = true) : r.k.depth ≤ 2 := by
  have := depth_atoms h
  show max 0 (max 0 (max (NestedKey.depthAll r.vs + 1) 0)) + 1 ≤ 2
  omega
theorem depth_rows {l : List Row} (h : Atoms l) : NestedKey.depthAll (l.map Row.k) ≤ 2 := depth_le_all fun d hd => by
  obtain ⟨r, hr, rfl⟩ := List.mem_map.mp hd
  exact depth_row (h r hr)
theorem depth_cols (cs : List Col) : NestedKey.depthAll (cs.map colK) ≤ 1 := depth_le_all fun d hd => by
  obtain ⟨r, hr, rfl⟩ := List.mem_map.mp hd
  exact Nat.le_refl _
theorem part_ty {cs : List Col} {l : List Row} {es : List En} (p : PartOf l es) (h : ∀ r ∈ l, TyD cs r) : TyP cs es := fun r hr => h r (p.perm.mem_iff.mp (List.mem_filterMap.mpr ⟨_, hr, rfl⟩))
theorem Told.dr {T : List (Addr × Str)} {d c td : Addr} {H H' : Hp} {px py : List En} (e : Dr T d c H H') (h1 : td ≠ d) (h2 : td ≠ c) (h : Told H td px py) : Told H' td px py :=
  let ⟨kvs, h3, h4⟩ := h; ⟨kvs, e.keep td _ h1 h2 h3 (fun _ z => by cases z), Paired.mapP h4 fun _ _ r => ⟨r.1, Tp.ts e.ts _ _ r.2⟩⟩
/-- what law has at hand, behind its draws -/
structure LapF (T : List (Addr × Str)) (d c : Addr) (q : Qry) (px py : List En) (L R : List Row) (vl vr vk vp vq v0 v1 : V) (pa td da : Addr) (H : Hp) : Prop where
  src : Src H d c
  tabs : Tabs T H
  dq : DrawnQ q
  pL : PartOf L px
  pR : PartOf R py
  gL : ∀ r ∈ L, TyD q.L r
  gR : ∀ r ∈ R, TyD q.R r
  lL : L.length ≤ 8
  lR : R.length ≤ 8
  tl : Tp H vl (colsK q.L)
  tr : Tp H vr (colsK q.R)
  tk : Tp H vk (.tup (txts q.keys))
  tp : Tp H vp (joinJ q).k
  tq : Tp H vq q.k
  npd : pa ≠ d
  npc : pa ≠ c
  hpa : H pa = some (.lst [v0, v1])
  tv0 : Tp H v0 (partK px)
  tv1 : Tp H v1 (partK py)
  ntd : td ≠ d
  ntc : td ≠ c
  told : Told H td px py
  nad : da ≠ d
  nac : da ≠ c
  due : LsK H (.ref da) (((allP (joinJ q) L R).mergeSort leL).map Row.k)
section
variable {T : List (Addr × Str)} {d c : Addr} {q : Qry} {px py : List En} {L R : List Row} {vl vr vk vp vq v0 v1 : V} {pa td da : Addr} {H H' : Hp}
theorem LapF.dr (F : LapF T d c q px py L R vl vr vk vp vq v0 v1 pa td da H) (e : Dr T d c H H') (s : Src H' d c) : LapF T d c q px py L R vl vr vk vp vq v0 v1 pa td da H' :=
  ⟨s, e.tabs F.tabs, F.dq, F.pL, F.pR, F.gL, F.gR, F.lL, F.lR, Tp.ts e.ts _ _ F.tl, Tp.ts e.ts _ _ F.tr, Tp.ts e.ts _ _ F.tk, Tp.ts e.ts _ _ F.tp, Tp.ts e.ts _ _ F.tq, F.npd, F.npc, e.lst F.npd F.npc F.hpa, Tp.ts e.ts _ _ F.tv0, Tp.ts e.ts _ _ F.tv1, F.ntd, F.ntc, F.told.dr e F.ntd F.ntc, F.nad, F.nac,
    let ⟨a, xs, h1, h2, h3⟩ := F.due; ⟨a, xs, h1, e.lst (V.ref.inj h1 ▸ F.nad) (V.ref.inj h1 ▸ F.nac) h2, Tps.ts e.ts _ _ h3⟩⟩
theorem LapF.sm (F : LapF T d c q px py L R vl vr vk vp vq v0 v1 pa td da H) (e : Sm T H H') : LapF T d c q px py L R vl vr vk vp vq v0 v1 pa td da H' := F.dr (Dr.of e) (F.src.sm e)
variable (F : LapF T d c q px py L R vl vr vk vp vq v0 v1 pa td da H)
include F
theorem LapF.tx : TyP q.L px := part_ty F.pL F.gL
theorem LapF.ty : TyP q.R py := part_ty F.pR F.gR
theorem LapF.qok : QOk q px py := by
  have h1 := F.pL.perm.length_eq
  have h2 := F.pR.perm.length_eq
  have h3 := F.pL.len
  have h4 := F.pR.len
  have h5 := F.lL
  have h6 := F.lR
  exact drawn_qok F.dq F.tx F.ty F.pL.late F.pR.late (by omega) (by omega) (by omega) (by omega)
theorem LapF.atoms : Atoms (allP (joinJ q) L R) := allP_atoms F.dq F.gL F.gR
theorem LapF.satoms : Atoms ((allP (joinJ q) L R).mergeSort leL) := fun r hr => F.atoms r ((List.mergeSort_perm _ leL).mem_iff.mp hr)
theorem LapF.rows : (dueP q px py).map (fun p => p.1.k) = ((allP (joinJ q) L R).mergeSort leL).map Row.k := by
  rw [← due_rows F.dq F.tx F.ty F.pL.perm F.pR.perm, List.map_map]
  rfl
theorem LapF.len : ((allP (joinJ q) L R).mergeSort leL).length ≤ 144 := by
  rw [List.length_mergeSort]
  have h1 := allP_len (joinJ q) R L
  have h2 : L.length * R.length ≤ 8 * 8 := Nat.mul_le_mul F.lL F.lR
  omega
end
section
variable {X : Cx} {P : Program} {w : World} {K : PySem.W.Frag} {T : List (Addr × Str)} {D : Ends} {sc d c : Addr} {H : Hp} {z2 z3 z4 z5 z6 z7 z8 z9 z10 z11 z12 z13 z14 z15 z16 z17 z18 z19 z20 z21 z22 z23 z24 z25 z26 : Option V} {vl vr vk vp vq v0 v1 : V} {q : Qry} {sa s0 s1 pa td da : Addr} {x0 x1 : List V} {L R : List Row} {px py : List En}
theorem w_query (tl : Tp H vl (colsK q.L)) (tr : Tp H vr (colsK q.R)) (tk : Tp H vk (.tup (txts q.keys))) (hk : ∀ vq H', Sm T H H' → Tp H' vq (.tup (q.steps.map stepK)) → D.nx [some (V.ref sc), some (V.ref d), z2, some (vl), some (vr), some (vk), some (V.int q.back), some (V.int q.ahead), some (vp), some (V.ref sa), some (V.ref pa), some (vq), z12, z13, z14, z15, z16, z17, z18, z19, z20, z21, z22, z23, z24, z25, z26] H') : rdQuery D [some (V.ref sc), some (V.ref d), z2, some (vl), some (vr), some (vk), some (V.int q.back), some (V.int q.ahead), some (vp), some (V.ref sa), some (V.ref pa), z11, z12, z13, z14, z15, z16, z17, z18, z19, z20, z21, z22, z23, z24, z25, z26] H := by
  unfold rdQuery
  walk_at "rd2"
  intro p1 hp1
  have e1 : Sm T H (upd H p1 (.tup [V.str "source", vl])) := Sm.new hp1
  have t1 : Tp (upd H p1 (.tup [V.str "source", vl])) (.ref p1) (srcStep q.L) := tup_new hp1 (.cons (.str _) (.cons tl .nil))
  generalize upd H p1 (.tup [V.str "source", vl]) = H1 at e1 t1
  intro p2 hp2
  have e2 : Sm T H1 (upd H1 p2 (.tup [V.str "x", .ref p1])) := Sm.new hp2
  have t2 : Tp (upd H1 p2 (.tup [V.str "x", .ref p1])) (.ref p2) (stepK ("x", srcStep q.L)) := tup_new hp2 (.cons (.str _) (.cons t1 .nil))
  generalize upd H1 p2 (.tup [V.str "x", .ref p1]) = H2 at e2 t2
  have e12 := e1.trans e2
  intro p3 hp3
  have e3 : Sm T H2 (upd H2 p3 (.tup [V.str "source", vr])) := Sm.new hp3
  have t3 : Tp (upd H2 p3 (.tup [V.str "source", vr])) (.ref p3) (srcStep q.R) := tup_new hp3 (.cons (.str _) (.cons (Tp.ts e12.ts _ _ tr) .nil))
  generalize upd H2 p3 (.tup [V.str "source", vr]) = H3 at e3 t3
  intro p4 hp4
  have e4 : Sm T H3 (upd H3 p4 (.tup [V.str "y", .ref p3])) := Sm.new hp4
  have t4 : Tp (upd H3 p4 (.tup [V.str "y", .ref p3])) (.ref p4) (stepK ("y", srcStep q.R)) := tup_new hp4 (.cons (.str _) (.cons t3 .nil))
  generalize upd H3 p4 (.tup [V.str "y", .ref p3]) = H4 at e4 t4
  have e14 := e12.trans (e3.trans e4)
  intro p5 hp5
  have e5 : Sm T H4 (upd H4 p5 (.tup [V.str "join", V.str "x", V.str "y", vk, V.int q.back, V.int q.ahead])) := Sm.new hp5
  have t5 : Tp (upd H4 p5 (.tup [V.str "join", V.str "x", V.str "y", vk, V.int q.back, V.int q.ahead])) (.ref p5) (joinStep q) := tup_new hp5 (.cons (.str _) (.cons (.str _) (.cons (.str _) (.cons (Tp.ts e14.ts _ _ tk) (.cons (.int _) (.cons (.int _) .nil))))))
  generalize upd H4 p5 (.tup [V.str "join", V.str "x", V.str "y", vk, V.int q.back, V.int q.ahead]) = H5 at e5 t5
  intro p6 hp6
  have e6 : Sm T H5 (upd H5 p6 (.tup [V.str "j", .ref p5])) := Sm.new hp6
  have t6 : Tp (upd H5 p6 (.tup [V.str "j", .ref p5])) (.ref p6) (stepK ("j", joinStep q)) := tup_new hp6 (.cons (.str _) (.cons t5 .nil))
  generalize upd H5 p6 (.tup [V.str "j", .ref p5]) = H6 at e6 t6
  intro p7 hp7
  have e7 : Sm T H6 (upd H6 p7 (.tup [V.ref p2, .ref p4, .ref p6])) := Sm.new hp7
  have e57 := (e5.trans e6).trans e7
  refine hk (.ref p7) _ (e14.trans e57) (tup_new hp7 (.cons (Tp.ts (((e3.trans e4).trans e5).trans e6).ts _ _ t2) (.cons (Tp.ts (e5.trans e6).ts _ _ t4) (.cons t6 .nil))))
theorem w_told (src : Src H d c) (tq : Tp H vq (.tup (q.steps.map stepK))) (hpa : H pa = some (.lst [v0, v1])) (tv0 : Tp H v0 (partK px)) (tv1 : Tp H v1 (partK py))
    (hk : ∀ vq td H', Sm T H H' → td ≠ d → td ≠ c → Tp H' vq q.k → Told H' td px py → D.nx [some (V.ref sc), some (V.ref d), z2, some (vl), some (vr), some (vk), some (V.int q.back), some (V.int q.ahead), some (vp), some (V.ref sa), some (V.ref pa), some (vq), some (V.ref td), z13, z14, z15, z16, z17, z18, z19, z20, z21, z22, z23, z24, z25, z26] H') : rdTold K D [some (V.ref sc), some (V.ref d), z2, some (vl), some (vr), some (vk), some (V.int q.back), some (V.int q.ahead), some (vp), some (V.ref sa), some (V.ref pa), some (vq), z12, z13, z14, z15, z16, z17, z18, z19, z20, z21, z22, z23, z24, z25, z26] H := by
  unfold rdTold
  walk_at "rd2"
  intro p1 hp1
  have e1 : Sm T H (upd H p1 (.tup [V.str "out", V.str "j"])) := Sm.new hp1
  have t1 : Tp (upd H p1 (.tup [V.str "out", V.str "j"])) (.ref p1) (.tup [.text "out", .text "j"]) := tup_new hp1 (.cons (.str _) (.cons (.str _) .nil))
  generalize upd H p1 (.tup [V.str "out", V.str "j"]) = H1 at e1 t1
  intro p2 hp2
  have e2 : Sm T H1 (upd H1 p2 (.tup [V.ref p1])) := Sm.new hp2
  have t2 : Tp (upd H1 p2 (.tup [V.ref p1])) (.ref p2) (.tup [.tup [.text "out", .text "j"]]) := tup_new hp2 (.cons t1 .nil)
  generalize upd H1 p2 (.tup [V.ref p1]) = H2 at e2 t2
  have e12 := e1.trans e2
  refine cat_d (T := T) (Tp.ts e12.ts _ _ tq) t2 (by show 3 + 1 ≤ 100000; decide) fun v3 H3 e3 t3 => ?_
  have e13 := e12.trans e3
  walk_at "rd2"
  unfold tDisp
  intro td htd
  have e4 : Sm T H3 (upd H3 td (.dK [])) := Sm.new htd
  have h4 : (upd H3 td (.dK [])) td = some (.dK []) := upd_same
  have ftd : Fresh H td := fresh_of e13 htd
  obtain ⟨n1, n2⟩ := (src.sm e13).ned htd
  generalize upd H3 td (.dK []) = H4 at e4 h4
  have e14 := e13.trans e4
  simp only [tPairs]
  walk_at "rd2"
  refine ⟨pa, _, 0, v0, rfl, rfl, .inl (.inl (e14.lst hpa)), atI_nat (j := 0) rfl, fun p5 hp5 => ?_⟩
  have e5 : Sm T H4 (upd H4 p5 (.tup [v0])) := Sm.new hp5
  have t5 : Tp (upd H4 p5 (.tup [v0])) (.ref p5) (.tup [partK px]) := tup_new hp5 (.cons (Tp.ts e14.ts _ _ tv0) .nil)
  generalize upd H4 p5 (.tup [v0]) = H5 at e5 t5
  have e15 := e14.trans e5
  refine ⟨pa, _, 1, v1, rfl, rfl, .inl (.inl (e15.lst hpa)), atI_nat (j := 1) rfl, fun p6 hp6 => ?_⟩
  have e6 : Sm T H5 (upd H5 p6 (.tup [v1])) := Sm.new hp6
  have t6 : Tp (upd H5 p6 (.tup [v1])) (.ref p6) (.tup [partK py]) := tup_new hp6 (.cons (Tp.ts e15.ts _ _ tv1) .nil)
  generalize upd H5 p6 (.tup [v1]) = H6 at e6 t6
  have e56 := e5.trans e6
  have h6 := e56.dK h4
  refine ⟨h6, [(Sum.inr "x", .ref p5), (Sum.inr "y", .ref p6)], rfl, (by show 2 ≤ 15; decide), ?_⟩
  have mu : Mu (H6 td) := by rw [h6]; exact mu_dK
  have em : mergeK [] ([(Sum.inr "x", V.ref p5), (Sum.inr "y", V.ref p6)] : List (Key × V)) = ([(Sum.inr "x", V.ref p5), (Sum.inr "y", V.ref p6)] : List (Key × V)) := rfl
  rw [em]
  have ts7 : TS H6 (upd H6 td (.dK [((Sum.inr "x" : Key), V.ref p5), (Sum.inr "y", .ref p6)])) := TS.mu mu
  have sm7 : Sm T H (upd H6 td (.dK [((Sum.inr "x" : Key), V.ref p5), (Sum.inr "y", .ref p6)])) := (e14.trans e56).mutF ftd mu
  refine hk v3 td _ sm7 n1 n2 (Tp.ts ((e4.trans e56).ts.trans ts7) _ _ t3) ⟨_, upd_same, .cons ⟨rfl, Tp.ts (e6.ts.trans ts7) _ _ t5⟩ (.cons ⟨rfl, Tp.ts ts7 _ _ t6⟩ .nil)⟩
theorem w_due (src : Src H d c) (dq : DrawnQ q) (tp : Tp H vp (joinJ q).k) (hsa : H sa = some (.lst [.ref s0, .ref s1])) (h0 : H s0 = some (.lst x0)) (h1 : H s1 = some (.lst x1)) (t0 : Tps H x0 (L.map Row.k)) (t1 : Tps H x1 (R.map Row.k)) (gL : ∀ r ∈ L, TyD q.L r) (gR : ∀ r ∈ R, TyD q.R r) (lL : L.length ≤ 8) (lR : R.length ≤ 8)
    (hk : ∀ da H', Sm T H H' → da ≠ d → da ≠ c → LsK H' (.ref da) (((allP (joinJ q) L R).mergeSort leL).map Row.k) → D.nx [some (V.ref sc), some (V.ref d), z2, some (vl), some (vr), some (vk), some (V.int q.back), some (V.int q.ahead), some (vp), some (V.ref sa), some (V.ref pa), some (vq), some (V.ref td), some (V.ref da), z14, z15, z16, z17, z18, z19, z20, z21, z22, z23, z24, z25, z26] H') : rdDue K T D [some (V.ref sc), some (V.ref d), z2, some (vl), some (vr), some (vk), some (V.int q.back), some (V.int q.ahead), some (vp), some (V.ref sa), some (V.ref pa), some (vq), some (V.ref td), z13, z14, z15, z16, z17, z18, z19, z20, z21, z22, z23, z24, z25, z26] H := by
  unfold rdDue
  walk_at "rd2"
  refine ⟨sa, _, 0, _, rfl, rfl, .inl (.inl hsa), atI_nat (j := 0) rfl, ?_⟩
  refine ⟨sa, _, 1, _, rfl, rfl, .inl (.inl hsa), atI_nat (j := 1) rfl, ?_⟩
  refine ⟨vp, .ref s0, .ref s1, joinJ q, L, R, TyD q.L, TyD q.R, rfl, tp, ⟨s0, x0, rfl, h0, t0⟩, ⟨s1, x1, rfl, h1, t1⟩, drawn_jt dq, drawn_lal, gL, gR, by omega, by omega, fun da H' fa e hl => ?_⟩
  obtain ⟨n1, n2⟩ := src.nedF fa
  exact hk da H' e n1 n2 hl
variable (F : LapF T d c q px py L R vl vr vk vp vq v0 v1 pa td da H)
include F
theorem w_if1 (hk : ∀ H', Sm T H H' → D.nx [some (V.ref sc), some (V.ref d), z2, some (vl), some (vr), some (vk), some (V.int q.back), some (V.int q.ahead), some (vp), some (V.ref sa), some (V.ref pa), some (vq), some (V.ref td), some (V.ref da), z14, z15, z16, z17, z18, z19, z20, z21, z22, z23, z24, z25, z26] H') : rdIf1 T D [some (V.ref sc), some (V.ref d), z2, some (vl), some (vr), some (vk), some (V.int q.back), some (V.int q.ahead), some (vp), some (V.ref sa), some (V.ref pa), some (vq), some (V.ref td), some (V.ref da), z14, z15, z16, z17, z18, z19, z20, z21, z22, z23, z24, z25, z26] H := by
  unfold rdIf1
  walk_at "rd2"
  refine ⟨vl, vr, vk, q, rfl, F.tl, F.tr, F.tk, F.dq.ok, F.dq.kl, F.dq.kr, fun v' H' e t => ?_⟩
  refine ⟨_, _, t, Tp.ts e.ts _ _ F.tp, ?_, ?_⟩
  · show max (NestedKey.depthAll (nums _) + 1) (max (NestedKey.depthAll (nums _) + 1) (max (NestedKey.depthAll (nums _) + 1) (max 0 (max 0 0)))) ≤ 50
    rw [depth_nums, depth_nums, depth_nums]
    decide
  · walk_at "rd2"
    exact hk H' e
theorem w_if2 (hk : ∀ H', Sm T H H' → D.nx [some (V.ref sc), some (V.ref d), z2, some (vl), some (vr), some (vk), some (V.int q.back), some (V.int q.ahead), some (vp), some (V.ref sa), some (V.ref pa), some (vq), some (V.ref td), some (V.ref da), z14, z15, z16, z17, z18, z19, z20, z21, z22, z23, z24, z25, z26] H') : rdIf2 T D [some (V.ref sc), some (V.ref d), z2, some (vl), some (vr), some (vk), some (V.int q.back), some (V.int q.ahead), some (vp), some (V.ref sa), some (V.ref pa), some (vq), some (V.ref td), some (V.ref da), z14, z15, z16, z17, z18, z19, z20, z21, z22, z23, z24, z25, z26] H := by
  unfold rdIf2
  walk_at "rd2"
  refine ⟨vq, q, "j", joinCols q, rfl, F.tq, F.dq.ok, List.mem_cons_of_mem _ (List.mem_cons_of_mem _ List.mem_cons_self), fun v' H1 e1 t1 => ?_⟩
  refine ⟨vl, vr, vk, q, rfl, Tp.ts e1.ts _ _ F.tl, Tp.ts e1.ts _ _ F.tr, Tp.ts e1.ts _ _ F.tk, F.dq.ok, fun v2 H2 e2 t2 => ?_⟩
  refine ⟨_, _, Tp.ts e2.ts _ _ t1, t2, Nat.le_trans (depth_cols _) (by decide), ?_⟩
  walk_at "rd2"
  exact hk H2 (e1.trans e2)
theorem w_if4 (hk : ∀ H', Sm T H H' → D.nx [some (V.ref sc), some (V.ref d), z2, some (vl), some (vr), some (vk), some (V.int q.back), some (V.int q.ahead), some (vp), some (V.ref sa), some (V.ref pa), some (vq), some (V.ref td), some (V.ref da), z14, z15, z16, z17, z18, z19, z20, z21, z22, z23, z24, z25, z26] H') : rdIf4 K T D [some (V.ref sc), some (V.ref d), z2, some (vl), some (vr), some (vk), some (V.int q.back), some (V.int q.ahead), some (vp), some (V.ref sa), some (V.ref pa), some (vq), some (V.ref td), some (V.ref da), z14, z15, z16, z17, z18, z19, z20, z21, z22, z23, z24, z25, z26] H := by
  unfold rdIf4
  walk_at "rd2"
  refine lcL (T := T) (dueP q px py) (fun H v p => Tp H v (prK p)) (fun _ H v (r : Row) => Tp H v r.k) (fun p => some p.1) (fun Q' k' => ?_) ?_ (fun _ _ _ _ e t => Tp.ts e.ts _ _ t) (fun _ _ _ _ _ xb t => Tp.ts xb.1 _ _ t) (fun D i x p H1 hi e tx hD Qy Qn hy hnn => ?_) (fun D H1 ys e1 hD pr => ?_)
  · walk_at "rd2"
    refine ⟨vq, td, q, px, py, rfl, F.tq, F.told, F.tabs, F.qok, prs_ok F.dq F.tx F.ty, prs_alike F.dq F.tx F.ty, fun v' H' e h => ?_⟩
    obtain ⟨a, xs, rfl, ha, tx⟩ := h
    exact k' a xs H' e ha (tps_pr tx)
  · have := F.len
    have e := congrArg List.length F.rows
    rw [List.length_map, List.length_map] at e
    omega
  · refine gT2 tx fun v1 v2 t1 t2 => ?_
    walk_at "rd2"
    exact hy v1 p.1 H1 rfl (Sm.refl _ _) t1
  · walk_at "rd2"
    rw [fm_map] at pr
    have t := rows_pr pr
    have er : ((dueP q px py).map fun p => p.1).map Row.k = ((allP (joinJ q) L R).mergeSort leL).map Row.k := by rw [List.map_map]; exact F.rows
    rw [er] at t
    refine ⟨_, _, ⟨D, ys, rfl, hD, t⟩, lsK_sm e1 F.due, Nat.le_trans (depth_rows F.satoms) (by decide), ?_⟩
    exact ⟨_, rfl, ifF (by simp) (hk H1 e1)⟩
theorem w_if3 (hP : X.prog = P) (hw : X.w = w) (hk : ∀ H', Sm T H H' → D.nx [some (V.ref sc), some (V.ref d), z2, some (vl), some (vr), some (vk), some (V.int q.back), some (V.int q.ahead), some (vp), some (V.ref sa), some (V.ref pa), some (vq), some (V.ref td), some (V.ref da), z14, z15, z16, z17, z18, z19, z20, z21, z22, z23, z24, z25, z26] H') : rdIf3 X P w T D [some (V.ref sc), some (V.ref d), z2, some (vl), some (vr), some (vk), some (V.int q.back), some (V.int q.ahead), some (vp), some (V.ref sa), some (V.ref pa), some (vq), some (V.ref td), some (V.ref da), z14, z15, z16, z17, z18, z19, z20, z21, z22, z23, z24, z25, z26] H := by
  subst hP hw
  unfold rdIf3
  walk_at "rd2"
  refine ⟨vq, td, q, px, py, rfl, F.tq, F.told, F.tabs, F.qok, prs_ok F.dq F.tx F.ty, prs_alike F.dq F.tx F.ty, fun a1 H1 e1 d1 => ?_⟩
  have F1 := F.sm e1
  refine ⟨vq, td, q, px, py, rfl, F1.tq, F1.told, F1.tabs, F1.qok, prs_ok F.dq F.tx F.ty, prs_alike F.dq F.tx F.ty, ⟨by have := F.pL.len; have := F.lL; omega, by have := F.pR.len; have := F.lR; omega⟩, fun a2 H2 e2 d2 => ?_⟩
  intro p3 hp3
  have e3 : Sm T H2 (upd H2 p3 (.lst [.ref a1, .ref a2])) := Sm.new hp3
  have h3 : (upd H2 p3 (.lst [.ref a1, .ref a2])) p3 = some (.lst [.ref a1, .ref a2]) := upd_same
  generalize upd H2 p3 (.lst [.ref a1, .ref a2]) = H3 at e3 h3
  have F3 := (F1.sm e2).sm e3
  obtain ⟨a0, xs, ea, ha, tx⟩ := F3.due
  have ea := V.ref.inj ea
  subst ea
  refine ⟨da, xs, _, rfl, ha, tx, fun k hk => ?_, ?_, fun a4 H4 e4 _ d4 => ?_⟩
  · obtain ⟨r, hr, rfl⟩ := List.mem_map.mp hk
    exact ⟨⟨_, rfl⟩, Nat.le_trans (depth_row (F.satoms r hr)) (by decide)⟩
  · rw [List.length_map]
    have := F.len
    omega
  · intro p5 hp5
    have e5 : Sm T H4 (upd H4 p5 (.lst [.ref a4])) := Sm.new hp5
    have h5 : (upd H4 p5 (.lst [.ref a4])) p5 = some (.lst [.ref a4]) := upd_same
    generalize upd H4 p5 (.lst [.ref a4]) = H5 at e5 h5
    refine ⟨p5, 2, [.ref a4], rfl, rfl, h5, by decide, by decide, by show 1 * 2 ≤ sizeLine; decide, fun p6 hp6 => ?_⟩
    have e6 : Sm T H5 (upd H5 p6 (.lst (List.replicate (2 : Int).toNat [V.ref a4]).flatten)) := Sm.new hp6
    have h6 : (upd H5 p6 (.lst (List.replicate (2 : Int).toNat [V.ref a4]).flatten)) p6 = some (.lst [.ref a4, .ref a4]) := upd_same
    generalize upd H5 p6 (.lst (List.replicate (2 : Int).toNat [V.ref a4]).flatten) = H6 at e6 h6
    have e46 := (e4.trans e5).trans e6
    refine ⟨p3, rfl, p6, rfl, a1, a2, e46.lst h3, a4, h6, _, d1.sm ((e2.trans e3).trans e46), _, d2.sm (e3.trans e46), _, d4.sm (e5.trans e6), ?_, ?_, ?_⟩
    · rw [F.rows]; exact bagV_same _
    · rw [F.rows]; exact bagV_same _
    · exact hk H6 (((e1.trans e2).trans e3).trans e46)
end
end K67
end
/-! ## K67LC -/
section
set_option maxHeartbeats 8000000
/-! K67LC: law's statements: the weavings -/
namespace K67
open PySem PySem.Spec PyProof.Rows L2 LamX NdefX
local macro_rules | `(tactic| walk_at "sm") => `(tactic| first | assumption | exact Sm.refl _ _ | (refine Sm.trans ?_ (by assumption); walk_at "sm"))
local macro_rules | `(tactic| walk_at "ts") => `(tactic| first | assumption | exact TS.refl _ | (refine TS.trans ?_ (by assumption); walk_at "ts") | (refine TS.trans ?_ (Sm.ts (by assumption)); walk_at "ts"))
local macro_rules | `(tactic| walk_at "tp") => `(tactic| first | assumption | exact Tp.int _ | exact Tp.str _ | exact Tp.non | (refine Tp.ts (H := ?_) ?_ _ _ (by assumption); walk_at "ts"))
local macro_rules | `(tactic| walk_at "tps") => `(tactic| first | assumption | exact Tps.nil | (refine Tps.cons ?_ ?_; · walk_at "tp"; · walk_at "tps") | (refine Tps.ts (H := ?_) ?_ _ _ (by assumption); walk_at "ts"))
local macro_rules | `(tactic| walk_at "rd") => `(tactic| try simp only [rMax2, and_assoc, tYes, tSeq, tIfS, tRet, tNext, tTest, tB, tOp, tUn, tVar, tC, tTup, tLst, tCons, tNil, tIf, tCB, tCall, tBM, tBM0, tAsg, gName, gCons, gNil, gSub, tDrop, tPar, tPar3, tAug, tAnd, tOr, tNot, tAndV, tOrV, tNotV, tChain, tSl, tPart, tNoPart, rI0, rI, rU, rEq, rNe, L2.start, wipe, sz0, sz1, sz2, sz3, sz4, sz5, sz6, List.map_cons, List.map_nil, List.length_cons, List.length_nil, List.cons_append, List.nil_append, List.append_nil, List.getElem?_cons_zero, List.getElem?_cons_succ, List.set_cons_zero, List.set_cons_succ, List.replicate_zero, List.replicate_succ, Option.some.injEq, V.bl.injEq, V.int.injEq, V.str.injEq, List.cons.injEq, and_true, true_and, exists_eq_left', exists_eq_left, exists_eq', exists_eq, exists_and_left, Nat.reduceSub, Nat.reduceAdd, Nat.reduceLeDiff, decide_true, decide_false, if_true, if_false, Bool.false_eq_true, reduceIte])
local macro_rules | `(tactic| walk_at "rd2") => `(tactic| try simp only [tDGet, sDPut, tDNewK, tNNew, tNGet2, tNSetd, tNGet, sNPut, tTupF, tCKw, tDead, sDead, tDispN, tPairs, StX.tStar, rNeDN, rNeDN2, rMax2, and_assoc, tYes, tSeq, tIfS, tRet, tNext, tTest, tB, tOp, tUn, tVar, tC, tTup, tLst, tCons, tNil, tIf, tCB, tCall, tBM, tBM0, tAsg, gName, gCons, gNil, gSub, tDrop, tPar, tPar3, tAug, tAnd, tOr, tNot, tAndV, tOrV, tNotV, tChain, tSl, tPart, tNoPart, rI0, rI, rU, rEq, rNe, L2.start, wipe, sz0, sz1, sz2, sz3, sz4, sz5, sz6, List.map_cons, List.map_nil, List.length_cons, List.length_nil, List.cons_append, List.nil_append, List.append_nil, List.getElem?_cons_zero, List.getElem?_cons_succ, List.set_cons_zero, List.set_cons_succ, List.replicate_zero, List.replicate_succ, Option.some.injEq, V.bl.injEq, V.int.injEq, V.str.injEq, List.cons.injEq, and_true, true_and, exists_eq_left', exists_eq_left, exists_eq', exists_eq, exists_and_left, Nat.reduceSub, Nat.reduceAdd, Nat.reduceLeDiff, decide_true, decide_false, if_true, if_false, Bool.false_eq_true, reduceIte])

theorem sideE_mem {s : Nat} {ps : List SE} {p : SE} (h : p ∈ ps) (e : p.1 = s) : p.2 ∈ sideE s ps := List.mem_filterMap.mpr ⟨p, h, if_pos e⟩
theorem len_take_rows (es : List En) (n : Nat) : (rowsOf (es.take n)).length ≤ (rowsOf es).length := ((List.take_sublist n es).filterMap _).length_le
section
variable {X : Cx} {P : Program} {w : World} {K : PySem.W.Frag} {T : List (Addr × Str)} {D : Ends} {sc d c : Addr} {H : Hp} {z2 z3 z4 z5 z6 z7 z8 z9 z10 z11 z12 z13 z14 z15 z16 z17 z18 z19 z20 z21 z22 z23 z24 z25 z26 : Option V} {vl vr vk vp vq v0 v1 : V} {q : Qry} {sa pa td da qg : Addr} {L R : List Row} {px py : List En}
theorem w_turn (F : LapF T d c q px py L R vl vr vk vp vq v0 v1 pa td da H) (hk : ∀ z15 z16 H', Dr T d c H H' → LapF T d c q px py L R vl vr vk vp vq v0 v1 pa td da H' → D.nx [some (V.ref sc), some (V.ref d), z2, some (vl), some (vr), some (vk), some (V.int q.back), some (V.int q.ahead), some (vp), some (V.ref sa), some (V.ref pa), some (vq), some (V.ref td), some (V.ref da), z14, z15, z16, z17, z18, z19, z20, z21, z22, z23, z24, z25, z26] H') :
    tSeq (rdThings T) (tSeq (rdFound K T) (tSeq (rdIf5 T qg) (rdIf6 T))) D [some (V.ref sc), some (V.ref d), z2, some (vl), some (vr), some (vk), some (V.int q.back), some (V.int q.ahead), some (vp), some (V.ref sa), some (V.ref pa), some (vq), some (V.ref td), some (V.ref da), z14, z15, z16, z17, z18, z19, z20, z21, z22, z23, z24, z25, z26] H := by
  unfold rdThings rdFound rdIf5 rdIf6
  walk_at "rd2"
  have lpx := F.pL.len
  have lpy := F.pR.len
  have lL := F.lL
  have lR := F.lR
  refine ⟨d, c, pa, v0, v1, px, py, rfl, F.src, F.hpa, F.tv0, F.tv1, tyP_ok F.dq.ok.l F.tx, tyP_ok F.dq.ok.r F.ty, by omega, by omega, fun v ps H1 dr1 src1 hv hs hx hy hl => ?_⟩
  have F1 := F.dr dr1 src1
  refine ⟨v, ps, rfl, hv, hs, by omega, fun vt H2 e2 hvt => ?_⟩
  have F2 := F1.sm e2
  have ok : ∀ t ∈ things ps, ThOk (TyD q.L) (TyD q.R) t := fun t ht => by
    have := things_mem (P := fun s r => s ≤ 1 ∧ if s = 0 then TyD q.L r else TyD q.R r) ps ⟨0, 0, 0, []⟩ (fun t ht => by cases ht) (fun p hp r e => ?_) t ht
    · cases t with
      | mark m => exact True.intro
      | row s r => exact this s r rfl
    · have h1 := hs p hp
      refine ⟨h1, ?_⟩
      by_cases c0 : p.1 = 0
      · rw [if_pos c0]
        have := sideE_mem hp c0
        rw [hx, e] at this
        exact F.tx r this
      · rw [if_neg c0]
        have := sideE_mem hp (show p.1 = 1 by omega)
        rw [hy, e] at this
        exact F.ty r this
  have lt := things_len ps
  have lt35 : (things ps).length ≤ 35 := by omega
  have hmk : ∀ p ∈ ps, ∀ m, p.2 = .mark m → m < 1000000000 := fun p hp m e => by
    have h1 := hs p hp
    by_cases c0 : p.1 = 0
    · have := sideE_mem hp c0
      rw [hx, e] at this
      have := (F.pL.mks m this).2
      omega
    · have := sideE_mem hp (show p.1 = 1 by omega)
      rw [hy, e] at this
      have := (F.pR.mks m this).2
      omega
  have wall : (Wv.all (joinJ q) (things ps)).F.Perm (allP (joinJ q) L R) := (woven_all hs hx hy F.pL.late F.pR.late hmk).trans (allP_perm F.pL.perm F.pR.perm)
  refine ⟨vp, vt, joinJ q, things ps, TyD q.L, TyD q.R, rfl, F2.tp, hvt, F2.tabs, drawn_jt F.dq, ok, lt35, fun p H3 va vf Fd e3 hp hvf pF => ?_⟩
  have F3 := F2.sm e3
  refine ⟨p, _, 1, vf, rfl, rfl, .inl hp, atI_nat (j := 1) rfl, ?_⟩
  have pFd := pF.trans wall
  have fty : ∀ x ∈ Fd, ∃ a b, TyD q.L a ∧ TyD q.R b ∧ x = pairR (joinJ q) a b := fun x hx => by
    obtain ⟨a, b, ha, hb, rfl⟩ := allP_mem (pFd.mem_iff.mp hx)
    exact ⟨a, b, F.gL a ha, F.gR b hb, rfl⟩
  have fok : ∀ x ∈ Fd, x.ok := fun x hx => by
    obtain ⟨a, b, ha, hb, rfl⟩ := fty x hx
    exact pair_ok F.dq ha hb
  have flen : Fd.length ≤ 144 := by
    rw [pFd.length_eq, ← (List.mergeSort_perm _ leL).length_eq]
    exact F.len
  obtain ⟨fa, fx, rfl, hfa, tfx⟩ := hvf
  have prF : Paired (rowIR H3) fx Fd := by
    have key : ∀ {xs : List V} {as : List Row}, Paired (fun v (r : Row) => Tp H3 v r.k) xs as → (∀ x ∈ as, x.ok) → Paired (rowIR H3) xs as := by
      intro xs as h
      induction h with
      | nil => intro _; exact .nil
      | cons r _ ih => intro hk; exact .cons ⟨r, hk _ List.mem_cons_self⟩ (ih fun x hx => hk x (List.mem_cons_of_mem _ hx))
    exact key (tps_pr tfx) fok
  refine ⟨fa, fx, Fd, rfl, rfl, hfa, prF, by omega, fun dd hd dd' hd' => ?_, .inl fun d' hd' => ?_, fun x hx => ?_, fun p8 H8 ys e8 hp8 pr8 => ?_⟩
  · obtain ⟨x, hx, rfl⟩ := List.mem_map.mp hd
    obtain ⟨x', hx', rfl⟩ := List.mem_map.mp hd'
    exact al_lgiven (fok x hx).1 (fok x' hx').1
  · obtain ⟨x, _, rfl⟩ := List.mem_map.mp hd'
    exact ⟨_, _, rfl⟩
  · rw [depth_data]
    exact Nat.le_trans (depth_lgiven (fok x hx).1) (by omega)
  have e9 : Sm T H8 (upd H8 p8 (.lst ys)) := Sm.new hp8
  have h9 : (upd H8 p8 (.lst ys)) p8 = some (.lst ys) := upd_same
  have t9 : Tps (upd H8 p8 (.lst ys)) ys (((allP (joinJ q) L R).mergeSort leL).map Row.k) := by
    have key : ∀ {xs : List V} {ps : List Row}, Paired (rowIR H8) xs ps → Tps (upd H8 p8 (.lst ys)) xs (ps.map Row.k) := by
      intro xs ps h
      induction h with
      | nil => exact .nil
      | cons r _ ih => exact .cons (Tp.ts e9.ts _ _ r.1) ih
    have := key pr8
    rw [← sortL_eq pFd F.atoms]
    exact this
  generalize upd H8 p8 (.lst ys) = H9 at e9 h9 t9
  have e39 := e8.trans e9
  have F9 := F3.sm e39
  refine ⟨_, _, ⟨p8, ys, rfl, h9, t9⟩, F9.due, Nat.le_trans (depth_rows F.satoms) (by decide), ?_⟩
  walk_at "rd2"
  have e29 := e3.trans e39
  refine ⟨vp, vt, .ref fa, joinJ q, things ps, TyD q.L, TyD q.R, Fd, rfl, F9.tp, lsK_sm e29 hvt, drawn_jt F.dq, ok, lt35, ⟨fa, fx, rfl, e39.lst hfa, Tps.ts e39.ts _ _ tfx⟩, ?_, fun r hr => allP_dom F.dq F.gL F.gR r (pFd.mem_iff.mp hr), by omega, fun H10 e10 => ?_⟩
  · rw [things_rows, things_rows, hx, hy]
    exact pFd.trans (allP_perm F.pL.perm F.pR.perm).symm
  have F10 := F9.sm e10
  walk_at "rd2"
  refine ⟨vp, vt, joinJ q, things ps, TyD q.L, TyD q.R, rfl, F10.tp, lsK_sm (e29.trans e10) hvt, drawn_jt F.dq, ok, lt35, fun v11 H11 e11 h11 => ?_⟩
  have F11 := F10.sm e11
  have es : (allP (joinJ q) (sideRows 0 (things ps)) (sideRows 1 (things ps))).mergeSort leG = (allP (joinJ q) L R).mergeSort leL := by
    rw [things_rows, things_rows, hx, hy]
    exact sortG_eq (allP_perm F.pL.perm F.pR.perm) F.atoms
  have h11 : LsK H11 v11 (((allP (joinJ q) (sideRows 0 (things ps)) (sideRows 1 (things ps))).mergeSort leG).map Row.k) := h11
  rw [es] at h11
  refine ⟨_, _, h11, F11.due, Nat.le_trans (depth_rows F.satoms) (by decide), ?_⟩
  walk_at "rd2"
  exact hk _ _ H11 (dr1.trans (Dr.of (((e2.trans e29).trans e10).trans e11))) F11
end
end K67
end
/-! ## K67LD -/
section
set_option maxHeartbeats 8000000
/-! K67LD: law's statements: the two weavings, the cuts, the last test -/
namespace K67
open PySem PySem.Spec PyProof.Rows L2 LamX NdefX
local macro_rules | `(tactic| walk_at "sm") => `(tactic| first | assumption | exact Sm.refl _ _ | (refine Sm.trans ?_ (by assumption); walk_at "sm"))
local macro_rules | `(tactic| walk_at "ts") => `(tactic| first | assumption | exact TS.refl _ | (refine TS.trans ?_ (by assumption); walk_at "ts") | (refine TS.trans ?_ (Sm.ts (by assumption)); walk_at "ts"))
local macro_rules | `(tactic| walk_at "tp") => `(tactic| first | assumption | exact Tp.int _ | exact Tp.str _ | exact Tp.non | (refine Tp.ts (H := ?_) ?_ _ _ (by assumption); walk_at "ts"))
local macro_rules | `(tactic| walk_at "tps") => `(tactic| first | assumption | exact Tps.nil | (refine Tps.cons ?_ ?_; · walk_at "tp"; · walk_at "tps") | (refine Tps.ts (H := ?_) ?_ _ _ (by assumption); walk_at "ts"))
local macro_rules | `(tactic| walk_at "rd") => `(tactic| try simp only [rMax2, and_assoc, tYes, tSeq, tIfS, tRet, tNext, tTest, tB, tOp, tUn, tVar, tC, tTup, tLst, tCons, tNil, tIf, tCB, tCall, tBM, tBM0, tAsg, gName, gCons, gNil, gSub, tDrop, tPar, tPar3, tAug, tAnd, tOr, tNot, tAndV, tOrV, tNotV, tChain, tSl, tPart, tNoPart, rI0, rI, rU, rEq, rNe, L2.start, wipe, sz0, sz1, sz2, sz3, sz4, sz5, sz6, List.map_cons, List.map_nil, List.length_cons, List.length_nil, List.cons_append, List.nil_append, List.append_nil, List.getElem?_cons_zero, List.getElem?_cons_succ, List.set_cons_zero, List.set_cons_succ, List.replicate_zero, List.replicate_succ, Option.some.injEq, V.bl.injEq, V.int.injEq, V.str.injEq, List.cons.injEq, and_true, true_and, exists_eq_left', exists_eq_left, exists_eq', exists_eq, exists_and_left, Nat.reduceSub, Nat.reduceAdd, Nat.reduceLeDiff, decide_true, decide_false, if_true, if_false, Bool.false_eq_true, reduceIte])
local macro_rules | `(tactic| walk_at "rd2") => `(tactic| try simp only [tDGet, sDPut, tDNewK, tNNew, tNGet2, tNSetd, tNGet, sNPut, tTupF, tCKw, tDead, sDead, tDispN, tPairs, StX.tStar, rNeDN, rNeDN2, rMax2, and_assoc, tYes, tSeq, tIfS, tRet, tNext, tTest, tB, tOp, tUn, tVar, tC, tTup, tLst, tCons, tNil, tIf, tCB, tCall, tBM, tBM0, tAsg, gName, gCons, gNil, gSub, tDrop, tPar, tPar3, tAug, tAnd, tOr, tNot, tAndV, tOrV, tNotV, tChain, tSl, tPart, tNoPart, rI0, rI, rU, rEq, rNe, L2.start, wipe, sz0, sz1, sz2, sz3, sz4, sz5, sz6, List.map_cons, List.map_nil, List.length_cons, List.length_nil, List.cons_append, List.nil_append, List.append_nil, List.getElem?_cons_zero, List.getElem?_cons_succ, List.set_cons_zero, List.set_cons_succ, List.replicate_zero, List.replicate_succ, Option.some.injEq, V.bl.injEq, V.int.injEq, V.str.injEq, List.cons.injEq, and_true, true_and, exists_eq_left', exists_eq_left, exists_eq', exists_eq, exists_and_left, Nat.reduceSub, Nat.reduceAdd, Nat.reduceLeDiff, decide_true, decide_false, if_true, if_false, Bool.false_eq_true, reduceIte])

/-- over a tuple of data, the new list's own address told fresh -/
theorem lcTf {T : List (Addr × Str)} {K : PySem.W.Frag} {H : Hp} {σ : L2.St} {vs : List Nat} {tl te : TE} {g : TG} {tt : TT} {Q : VK} {α β : Type} (as : List α) (en : α → NestedKey) (R : Addr → Hp → V → β → Prop) (F : α → Option β)
    (h : ∀ Q' : VK, (∀ v H', Sm T H H' → Tp H' v (.tup (as.map en)) → Q' v H') → tl σ H Q') (hl : as.length ≤ 100000) (hR : ∀ D H H' v b, XBut D H H' → R D H v b → R D H' v b)
    (hs : ∀ D (i : Nat) x a H1, as[i]? = some a → Sm T H H1 → Tp H1 x (en a) → (∃ ys, H1 D = some (.lst ys)) → Turn' T g tt te vs σ (R D) (F a) x H1)
    (hd : ∀ D H1 ys, Fresh H D → Sm T H H1 → H1 D = some (.lst ys) → Paired (R D H1) ys (as.filterMap F) → Q (.ref D) H1) : tLc (iTup K tl) g tt te vs σ H Q := by
  refine h _ fun v H1 e1 tv => ?_
  obtain ⟨a, xs, rfl, h1, h2⟩ := tv.tup_inv
  have hn : xs.length = as.length := by rw [h2.length, List.length_map]
  refine ⟨a, rfl, ⟨xs, .inl h1⟩, fun D hD => ?_⟩
  refine lc_dat (T := T) (walk_tup (K := K) (a := a) (xs := xs)) (R D) (fun i => as[i]?.bind F) hD (fun H' e => .inl (e.rd h1)) (by omega) (hR D) (fun i x H2 H2' hi e2 hDs y Qy Qn hy hnn => ?_) (fun H' ys e2 hD' pr => ?_)
  · obtain ⟨rfl, hx⟩ := y
    obtain ⟨d, hd', td⟩ := h2.at_ hx
    rw [List.getElem?_map] at hd'
    obtain ⟨b, hb, rfl⟩ := Option.map_eq_some_iff.mp hd'
    exact hs D i x b H2' hb (e1.trans e2) (Tp.ts e2.ts _ _ td) hDs Qy Qn (fun y b' H3 h1 h2 h3 => hy y b' H3 (by show as[i]?.bind F = _; rw [hb]; exact h1) h2 h3) (fun H3 h1 h2 => hnn H3 (by show as[i]?.bind F = _; rw [hb]; exact h1) h2)
  · rw [hn, fm_at] at pr
    exact hd D H' ys (fresh_of e1 hD) (e1.trans e2) hD' pr
section
variable {X : Cx} {P : Program} {w : World} {K : PySem.W.Frag} {T : List (Addr × Str)} {D : Ends} {sc d c : Addr} {H : Hp} {z2 z3 z4 z5 z6 z7 z8 z9 z10 z11 z12 z13 z14 z15 z16 z17 z18 z19 z20 z21 z22 z23 z24 z25 z26 : Option V} {vl vr vk vp vq v0 v1 : V} {q : Qry} {sa pa td da qg ea : Addr} {L R : List Row} {px py : List En}
theorem w_turns (F : LapF T d c q px py L R vl vr vk vp vq v0 v1 pa td da H) (hk : ∀ z14 z15 z16 H', LapF T d c q px py L R vl vr vk vp vq v0 v1 pa td da H' → D.nx [some (V.ref sc), some (V.ref d), z2, some (vl), some (vr), some (vk), some (V.int q.back), some (V.int q.ahead), some (vp), some (V.ref sa), some (V.ref pa), some (vq), some (V.ref td), some (V.ref da), z14, z15, z16, z17, z18, z19, z20, z21, z22, z23, z24, z25, z26] H') :
    rdTurns K T qg D [some (V.ref sc), some (V.ref d), z2, some (vl), some (vr), some (vk), some (V.int q.back), some (V.int q.ahead), some (vp), some (V.ref sa), some (V.ref pa), some (vq), some (V.ref td), some (V.ref da), z14, z15, z16, z17, z18, z19, z20, z21, z22, z23, z24, z25, z26] H := by
  unfold rdTurns
  refine ⟨2, rfl, by decide, by decide, ?_⟩
  refine for_it (walk_range (lo := 0) (n := 2)) (fun i σ' H' => ∃ z14 z15 z16, σ' = [some (V.ref sc), some (V.ref d), z2, some (vl), some (vr), some (vk), some (V.int q.back), some (V.int q.ahead), some (vp), some (V.ref sa), some (V.ref pa), some (vq), some (V.ref td), some (V.ref da), z14, z15, z16, z17, z18, z19, z20, z21, z22, z23, z24, z25, z26] ∧ LapF T d c q px py L R vl vr vk vp vq v0 v1 pa td da H') ⟨_, _, _, rfl, F⟩ (fun _ _ _ _ _ => trivial) (fun i x σ' H1 H2 hi p y => ?_) (fun σ' H' p => ?_)
  · obtain ⟨z14, z15, z16, rfl, F1⟩ := p
    obtain ⟨rfl, rfl⟩ := y
    exact w_turn F1 fun z15 z16 H' _ F2 => ⟨_, z15, z16, rfl, F2⟩
  · obtain ⟨z14, z15, z16, rfl, F1⟩ := p
    exact hk z14 z15 z16 H' F1
theorem w_ends (F : LapF T d c q px py L R vl vr vk vp vq v0 v1 pa td da H)
    (hk : ∀ ea (n0 n1 : Nat) H', LapF T d c q px py L R vl vr vk vp vq v0 v1 pa td da H' → H' ea = some (.lst [.int (n0 : Int), .int (n1 : Int)]) → D.nx [some (V.ref sc), some (V.ref d), z2, some (vl), some (vr), some (vk), some (V.int q.back), some (V.int q.ahead), some (vp), some (V.ref sa), some (V.ref pa), some (vq), some (V.ref td), some (V.ref da), z14, z15, z16, some (V.ref ea), z18, z19, z20, z21, z22, z23, z24, z25, z26] H') :
    rdEnds K T D [some (V.ref sc), some (V.ref d), z2, some (vl), some (vr), some (vk), some (V.int q.back), some (V.int q.ahead), some (vp), some (V.ref sa), some (V.ref pa), some (vq), some (V.ref td), some (V.ref da), z14, z15, z16, z17, z18, z19, z20, z21, z22, z23, z24, z25, z26] H := by
  unfold rdEnds
  walk_at "rd2"
  have lpx := F.pL.len
  have lpy := F.pR.len
  have lL := F.lL
  have lR := F.lR
  refine lcLD (T := T) (d := d) (c := c) [px, py] (fun H v (es : List En) => Tp H v (partK es) ∧ es.length ≤ 100) (fun _ H v (n : Nat) => v = .int (n : Int)) (fun es n => True) F.src (fun Q' k' => ?_) (by show 2 ≤ 100000; decide) (fun H' v l e h => ⟨Tp.ts e.ts _ _ h.1, h.2⟩) (fun _ _ _ _ _ _ h => h) (fun _ _ _ _ _ _ h => h) (fun D i x es H1 hi fD dr1 src1 tx hDs Qy hq => ?_) (fun D H1 ys bs fD nDd nDc dr1 src1 hD pr pg => ?_)
  · walk_at "rd2"
    exact k' pa [v0, v1] F.npd F.npc F.hpa (.cons ⟨F.tv0, by omega⟩ (.cons ⟨F.tv1, by omega⟩ .nil))
  · walk_at "rd2"
    refine len_t tx.1 ⟨_, rfl, ?_⟩
    have h2 := tx.2
    refine ⟨d, c, es.length + 1, by rw [List.length_map]; rfl, src1, by omega, fun n H2 dr2 src2 hn => ?_⟩
    exact hq _ n H2 True.intro dr2 src2 rfl
  · cases pg with
    | cons g0 pg =>
      cases pg with
      | cons g1 pg =>
        cases pg
        cases pr with
        | cons r0 pr =>
          cases pr with
          | cons r1 pr =>
            cases pr
            obtain rfl := r0
            obtain rfl := r1
            walk_at "rd2"
            exact hk D _ _ H1 (F.dr dr1 src1) hD
theorem cut_part {T : List (Addr × Str)} {K : PySem.W.Frag} {H : Hp} {x : V} {es : List En} {n : Nat} {Q : VK} (h : Tp H x (partK es)) (k : ∀ v H', Sm T H H' → Tp H' v (.tup ((es.take n).map En.k)) → Q v H') : rSlA K x none (some (n : Int)) H Q := by
  refine sl_d (T := T) h ?_ k
  rw [HT.sIx_nat, HT.sIx_none, List.drop_zero, Nat.sub_zero, List.map_take]
  by_cases hl : n ≤ (es.map En.k).length
  · rw [Nat.min_eq_left hl]
  · rw [Nat.min_eq_right (by omega), List.take_of_length_le (by omega), List.take_of_length_le (by omega)]
theorem w_short (F : LapF T d c q px py L R vl vr vk vp vq v0 v1 pa td da H) {n0 n1 : Nat} (hea : H ea = some (.lst [.int (n0 : Int), .int (n1 : Int)]))
    (hk : ∀ (ha h0 h1 : Addr) (y0 y1 : List V) H', Sm T H H' → H' ha = some (.lst [.ref h0, .ref h1]) → H' h0 = some (.lst y0) → H' h1 = some (.lst y1) → Tps H' y0 ((rowsOf (px.take n0)).map Row.k) → Tps H' y1 ((rowsOf (py.take n1)).map Row.k) → D.nx [some (V.ref sc), some (V.ref d), z2, some (vl), some (vr), some (vk), some (V.int q.back), some (V.int q.ahead), some (vp), some (V.ref sa), some (V.ref pa), some (vq), some (V.ref td), some (V.ref da), z14, z15, z16, some (V.ref ea), some (V.ref ha), z19, z20, z21, z22, z23, z24, z25, z26] H') :
    rdShort K D [some (V.ref sc), some (V.ref d), z2, some (vl), some (vr), some (vk), some (V.int q.back), some (V.int q.ahead), some (vp), some (V.ref sa), some (V.ref pa), some (vq), some (V.ref td), some (V.ref da), z14, z15, z16, some (V.ref ea), z18, z19, z20, z21, z22, z23, z24, z25, z26] H := by
  unfold rdShort
  walk_at "rd2"
  have lpx := F.pL.len
  have lpy := F.pR.len
  have lL := F.lL
  have lR := F.lR
  refine lcZ (T := T) [px, py] [n0, n1] (fun H v (es : List En) => Tp H v (partK es) ∧ es.length ≤ 100) (fun H v (n : Nat) => v = .int (n : Int)) LsN (fun es n => rowsOf (es.take n)) rfl (by show 2 ≤ 100000; decide) (fun Q' k' => ?_) (fun _ _ _ _ e t => ⟨Tp.ts e.ts _ _ t.1, t.2⟩) (fun _ _ _ _ _ t => t) (fun _ _ _ _ _ xb t => lsn_xb xb t) (fun D i p x y es n H1 hi hj fD e1 tx ty hp hDs Qy Qn hy hnn => ?_) (fun D H1 ys fD e1 hD pr => ?_)
  · walk_at "rd2"
    exact k' pa ea [v0, v1] [.int (n0 : Int), .int (n1 : Int)] F.hpa hea (.cons ⟨F.tv0, by omega⟩ (.cons ⟨F.tv1, by omega⟩ .nil)) (.cons rfl (.cons rfl .nil))
  · obtain rfl := ty
    refine gP hp ?_
    walk_at "rd2"
    refine lcTf (T := T) (es.take n) En.k (fun _ H v (r : Row) => Tp H v r.k) (fun e => match e with
      | .row r => some r
      | .mark _ => none) (fun Q' k' => ?_) (by have := tx.2; rw [List.length_take]; omega) (fun _ _ _ _ _ xb t => Tp.ts xb.1 _ _ t) (fun D2 j z e H2 hj e2 tz hDs2 Qz Qm hz hm => ?_) (fun D2 H2 ys2 fD2 e2 hD2 pr2 => ?_)
    · walk_at "rd2"
      exact cut_part (T := T) tx.1 k'
    · walk_at "rd2"
      cases e with
      | row r =>
        refine ix_d (i := 0) tz rfl fun y ty => ?_
        obtain rfl := ty.text_inv
        walk_at "rd2"
        refine ⟨rfl, ?_⟩
        refine sl_d (T := T) (es := [.num r.t, .num r.s, .tup r.vs]) tz (by rfl) fun v3 H3 e3 t3 => ?_
        exact hz v3 r H3 rfl e3 t3
      | mark m =>
        refine ix_d (i := 0) tz rfl fun y ty => ?_
        obtain rfl := ty.text_inv
        walk_at "rd2"
        refine ⟨rfl, ?_⟩
        refine ifF (by decide +kernel) ?_
        exact hm H2 rfl (Sm.refl _ _)
    · refine hy (.ref D2) _ H2 rfl e2 ⟨D2, ys2, rfl, fun z => ?_, hD2, rows_pr pr2⟩
      obtain ⟨ys0, hys0⟩ := hDs
      subst z
      obtain ⟨ps, hps⟩ := fD2 _ hys0
      cases hps
  · have pr : Paired (LsN D H1) ys [rowsOf (px.take n0), rowsOf (py.take n1)] := pr
    cases pr with
    | cons r0 pr =>
      cases pr with
      | cons r1 pr =>
        cases pr
        obtain ⟨h0, y0, rfl, _, hh0, t0⟩ := r0
        obtain ⟨h1, y1, rfl, _, hh1, t1⟩ := r1
        walk_at "rd2"
        exact hk D h0 h1 y0 y1 H1 e1 hD hh0 hh1 t0 t1
theorem w_here (F : LapF T d c q px py L R vl vr vk vp vq v0 v1 pa td da H) {n0 n1 : Nat} {ha : Addr} (hea : H ea = some (.lst [.int (n0 : Int), .int (n1 : Int)]))
    (hk : ∀ he H', Sm T H H' → Told H' he (px.take n0) (py.take n1) → D.nx [some (V.ref sc), some (V.ref d), z2, some (vl), some (vr), some (vk), some (V.int q.back), some (V.int q.ahead), some (vp), some (V.ref sa), some (V.ref pa), some (vq), some (V.ref td), some (V.ref da), z14, z15, z16, some (V.ref ea), some (V.ref ha), some (V.ref he), z20, z21, z22, z23, z24, z25, z26] H') :
    rdHere P w K T D [some (V.ref sc), some (V.ref d), z2, some (vl), some (vr), some (vk), some (V.int q.back), some (V.int q.ahead), some (vp), some (V.ref sa), some (V.ref pa), some (vq), some (V.ref td), some (V.ref da), z14, z15, z16, some (V.ref ea), some (V.ref ha), z19, z20, z21, z22, z23, z24, z25, z26] H := by
  unfold rdHere
  walk_at "rd2"
  intro p hp
  have e1 : Sm T H (upd H p (DN P w p [])) := Sm.new hp
  have h1 : (upd H p (DN P w p [])) p = some (DN P w p []) := upd_same
  have fp : Fresh H p := fun o ho => by rw [hp] at ho; cases ho
  generalize upd H p (DN P w p []) = H1 at e1 h1
  intro k1 hk1
  have e2 : Sm T H1 (upd H1 k1 (.tup [V.str "x", V.int 0])) := Sm.new hk1
  have t2 : Tp (upd H1 k1 (.tup [V.str "x", V.int 0])) (.ref k1) (.tup [.text "x", .num 0]) := tup_new hk1 (.cons (.str _) (.cons (.int _) .nil))
  generalize upd H1 k1 (.tup [V.str "x", V.int 0]) = H2 at e2 t2
  have e12 := e1.trans e2
  refine ⟨ea, _, 0, _, rfl, rfl, .inl (.inl (e12.lst hea)), atI_nat (j := 0) rfl, ?_⟩
  intro k2 hk2
  have e3 : Sm T H2 (upd H2 k2 (.tup [V.str "y", V.int 0])) := Sm.new hk2
  have t3 : Tp (upd H2 k2 (.tup [V.str "y", V.int 0])) (.ref k2) (.tup [.text "y", .num 0]) := tup_new hk2 (.cons (.str _) (.cons (.int _) .nil))
  generalize upd H2 k2 (.tup [V.str "y", V.int 0]) = H3 at e3 t3
  have e13 := e12.trans e3
  refine ⟨ea, _, 1, _, rfl, rfl, .inl (.inl (e13.lst hea)), atI_nat (j := 1) rfl, ?_⟩
  have h3 : H3 p = some (DN P w p []) := (e2.trans e3).1 p _ h1 (fun ps z => by unfold DN at z; cases z)
  refine ⟨h3, [(.tup [.text "x", .num 0], k1, .int (n0 : Int)), (.tup [.text "y", .num 0], k2, .int (n1 : Int))], rfl, fun e he => ?_, by show 2 ≤ 15; decide, ?_⟩
  · simp only [List.mem_cons, List.not_mem_nil, or_false] at he
    rcases he with rfl | rfl
    · exact ⟨Tp.ts e3.ts _ _ t2, by show 1 ≤ 8; decide⟩
    · exact ⟨t3, by show 1 ≤ 8; decide⟩
  have mu : Mu (H3 p) := by rw [h3]; exact mu_DN
  have hxy : NestedKey.tup [.text "x", .num 0] ≠ .tup [.text "y", .num 0] := fun z => absurd (NestedKey.text.inj (List.cons.inj (NestedKey.tup.inj z)).1) (by decide +kernel)
  generalize hes : ([(NestedKey.tup [.text "x", .num 0], k1, V.int (n0 : Int)), (NestedKey.tup [.text "y", .num 0], k2, V.int (n1 : Int))] : List Ent) = es
  have ek : kvsOf (storeAll [] es) = [(NestedKey.tup [.text "x", .num 0], V.int (n0 : Int)), (NestedKey.tup [.text "y", .num 0], V.int (n1 : Int))] := by
    rw [storeAll_kvs, ← hes]
    show putK (putK [] (NestedKey.tup [.text "x", .num 0]) (V.int (n0 : Int))) (NestedKey.tup [.text "y", .num 0]) (V.int (n1 : Int)) = _
    unfold putK
    simp [hxy]
  have ts4 : TS H3 (upd H3 p (DN P w p (storeAll [] es))) := TS.mu mu
  have e4 : Sm T H (upd H3 p (DN P w p (storeAll [] es))) := e13.mutF fp mu
  have de : DictE P w (upd H3 p (DN P w p (storeAll [] es))) p (storeAll [] es) := ⟨upd_same, storeAll_keys (fun k a => Tp (upd H3 p (DN P w p (storeAll [] es))) (.ref a) k ∧ k.depth ≤ 8) es [] (fun e he => by
    rw [← hes] at he
    simp only [List.mem_cons, List.not_mem_nil, or_false] at he
    rcases he with rfl | rfl
    · exact ⟨Tp.ts (e3.ts.trans ts4) _ _ t2, by show 1 ≤ 8; decide⟩
    · exact ⟨Tp.ts ts4 _ _ t3, by show 1 ≤ 8; decide⟩) (fun e he => by cases he)⟩
  generalize upd H3 p (DN P w p (storeAll [] es)) = H4 at e4 de
  refine ⟨td, p, px, py, n0, n1, rfl, F.told.sm e4, ⟨_, de, ?_, ?_⟩, fun a H5 e5 _ h5 => ?_⟩
  · rw [ek]; exact valV_pos rfl
  · rw [ek]; exact (valV_neg hxy).trans (valV_pos rfl)
  · exact hk a H5 (e4.trans e5) h5
theorem w_last (F : LapF T d c q px py L R vl vr vk vp vq v0 v1 pa td da H) (hP : X.prog = P) (hw : X.w = w) {n0 n1 : Nat} {ha he h0 h1 : Addr} {y0 y1 : List V} (hha : H ha = some (.lst [.ref h0, .ref h1])) (hh0 : H h0 = some (.lst y0)) (hh1 : H h1 = some (.lst y1)) (t0 : Tps H y0 ((rowsOf (px.take n0)).map Row.k)) (t1 : Tps H y1 ((rowsOf (py.take n1)).map Row.k)) (told : Told H he (px.take n0) (py.take n1))
    (hk : ∀ H', Sm T H H' → D.nx [some (V.ref sc), some (V.ref d), z2, some (vl), some (vr), some (vk), some (V.int q.back), some (V.int q.ahead), some (vp), some (V.ref sa), some (V.ref pa), some (vq), some (V.ref td), some (V.ref da), z14, z15, z16, some (V.ref ea), some (V.ref ha), some (V.ref he), z20, z21, z22, z23, z24, z25, z26] H') :
    rdLast X P w K T D [some (V.ref sc), some (V.ref d), z2, some (vl), some (vr), some (vk), some (V.int q.back), some (V.int q.ahead), some (vp), some (V.ref sa), some (V.ref pa), some (vq), some (V.ref td), some (V.ref da), z14, z15, z16, some (V.ref ea), some (V.ref ha), some (V.ref he), z20, z21, z22, z23, z24, z25, z26] H := by
  subst hP hw
  unfold rdLast
  walk_at "rd2"
  have lpx := F.pL.len
  have lpy := F.pR.len
  have lL := F.lL
  have lR := F.lR
  have tx := tyP_take F.tx n0
  have ty := tyP_take F.ty n1
  have l0 := len_take_rows px n0
  have l1 := len_take_rows py n1
  have p0 := F.pL.perm.length_eq
  have p1 := F.pR.perm.length_eq
  have qok : QOk q (px.take n0) (py.take n1) := drawn_qok F.dq tx ty (lateGo_take _ _ _ F.pL.late) (lateGo_take _ _ _ F.pR.late) (by rw [List.length_take]; omega) (by rw [List.length_take]; omega) (by omega) (by omega)
  refine ⟨vq, he, q, px.take n0, py.take n1, rfl, F.tq, told, F.tabs, qok, prs_ok F.dq tx ty, prs_alike F.dq tx ty, fun a1 H1 e1 d1 => ?_⟩
  have F1 := F.sm e1
  refine ⟨ha, _, 0, _, rfl, rfl, .inl (.inl (e1.lst hha)), atI_nat (j := 0) rfl, ?_⟩
  refine ⟨ha, _, 1, _, rfl, rfl, .inl (.inl (e1.lst hha)), atI_nat (j := 1) rfl, ?_⟩
  have at0 : Atoms (allP (joinJ q) (rowsOf (px.take n0)) (rowsOf (py.take n1))) := allP_atoms F.dq (tyP_rows tx) (tyP_rows ty)
  refine ⟨vp, .ref h0, .ref h1, joinJ q, rowsOf (px.take n0), rowsOf (py.take n1), TyD q.L, TyD q.R, rfl, F1.tp, ⟨h0, y0, rfl, e1.lst hh0, Tps.ts e1.ts _ _ t0⟩, ⟨h1, y1, rfl, e1.lst hh1, Tps.ts e1.ts _ _ t1⟩, drawn_jt F.dq, drawn_lal, tyP_rows tx, tyP_rows ty, by omega, by omega, fun a2 H2 _ e2 hl2 => ?_⟩
  obtain ⟨a3, xs, ea3, ha3, tx3⟩ := hl2
  have ea3 := V.ref.inj ea3
  subst ea3
  have lenS : ((allP (joinJ q) (rowsOf (px.take n0)) (rowsOf (py.take n1))).mergeSort leL).length ≤ 144 := by
    rw [List.length_mergeSort]
    have h1 := allP_len (joinJ q) (rowsOf (py.take n1)) (rowsOf (px.take n0))
    have h2 : (rowsOf (px.take n0)).length * (rowsOf (py.take n1)).length ≤ 8 * 8 := Nat.mul_le_mul (by omega) (by omega)
    omega
  refine ⟨a2, xs, _, rfl, ha3, tx3, fun k hk => ?_, ?_, fun a4 H4 e4 _ d4 => ?_⟩
  · obtain ⟨r, hr, rfl⟩ := List.mem_map.mp hk
    exact ⟨⟨_, rfl⟩, Nat.le_trans (depth_row (at0 r ((List.mergeSort_perm _ leL).mem_iff.mp hr))) (by decide)⟩
  · rw [List.length_map]
    exact Nat.le_trans lenS (by decide)
  · have er : (dueP q (px.take n0) (py.take n1)).map (fun p => p.1.k) = ((allP (joinJ q) (rowsOf (px.take n0)) (rowsOf (py.take n1))).mergeSort leL).map Row.k := by
      rw [← due_rows F.dq tx ty (.refl _) (.refl _), List.map_map]
      rfl
    have e24 := e2.trans e4
    rw [er] at d1
    exact ⟨a1, rfl, a4, rfl, _, d1.sm e24, _, d4, bagV_same _, hk H4 (e1.trans e24)⟩
end
end K67
end
/-! ## K67LW -/
section
set_option maxHeartbeats 8000000
/-! K67LW: law itself -/
namespace K67
open PySem PySem.Spec PyProof.Rows L2 LamX NdefX
local macro_rules | `(tactic| walk_at "sm") => `(tactic| first | assumption | exact Sm.refl _ _ | (refine Sm.trans ?_ (by assumption); walk_at "sm"))
local macro_rules | `(tactic| walk_at "ts") => `(tactic| first | assumption | exact TS.refl _ | (refine TS.trans ?_ (by assumption); walk_at "ts") | (refine TS.trans ?_ (Sm.ts (by assumption)); walk_at "ts"))
local macro_rules | `(tactic| walk_at "tp") => `(tactic| first | assumption | exact Tp.int _ | exact Tp.str _ | exact Tp.non | (refine Tp.ts (H := ?_) ?_ _ _ (by assumption); walk_at "ts"))
local macro_rules | `(tactic| walk_at "tps") => `(tactic| first | assumption | exact Tps.nil | (refine Tps.cons ?_ ?_; · walk_at "tp"; · walk_at "tps") | (refine Tps.ts (H := ?_) ?_ _ _ (by assumption); walk_at "ts"))
local macro_rules | `(tactic| walk_at "rd") => `(tactic| try simp only [rMax2, and_assoc, tYes, tSeq, tIfS, tRet, tNext, tTest, tB, tOp, tUn, tVar, tC, tTup, tLst, tCons, tNil, tIf, tCB, tCall, tBM, tBM0, tAsg, gName, gCons, gNil, gSub, tDrop, tPar, tPar3, tAug, tAnd, tOr, tNot, tAndV, tOrV, tNotV, tChain, tSl, tPart, tNoPart, rI0, rI, rU, rEq, rNe, L2.start, wipe, sz0, sz1, sz2, sz3, sz4, sz5, sz6, List.map_cons, List.map_nil, List.length_cons, List.length_nil, List.cons_append, List.nil_append, List.append_nil, List.getElem?_cons_zero, List.getElem?_cons_succ, List.set_cons_zero, List.set_cons_succ, List.replicate_zero, List.replicate_succ, Option.some.injEq, V.bl.injEq, V.int.injEq, V.str.injEq, List.cons.injEq, and_true, true_and, exists_eq_left', exists_eq_left, exists_eq', exists_eq, exists_and_left, Nat.reduceSub, Nat.reduceAdd, Nat.reduceLeDiff, decide_true, decide_false, if_true, if_false, Bool.false_eq_true, reduceIte])
local macro_rules | `(tactic| walk_at "rd2") => `(tactic| try simp only [tDGet, sDPut, tDNewK, tNNew, tNGet2, tNSetd, tNGet, sNPut, tTupF, tCKw, tDead, sDead, tDispN, tPairs, StX.tStar, rNeDN, rNeDN2, rMax2, and_assoc, tYes, tSeq, tIfS, tRet, tNext, tTest, tB, tOp, tUn, tVar, tC, tTup, tLst, tCons, tNil, tIf, tCB, tCall, tBM, tBM0, tAsg, gName, gCons, gNil, gSub, tDrop, tPar, tPar3, tAug, tAnd, tOr, tNot, tAndV, tOrV, tNotV, tChain, tSl, tPart, tNoPart, rI0, rI, rU, rEq, rNe, L2.start, wipe, sz0, sz1, sz2, sz3, sz4, sz5, sz6, List.map_cons, List.map_nil, List.length_cons, List.length_nil, List.cons_append, List.nil_append, List.append_nil, List.getElem?_cons_zero, List.getElem?_cons_succ, List.set_cons_zero, List.set_cons_succ, List.replicate_zero, List.replicate_succ, Option.some.injEq, V.bl.injEq, V.int.injEq, V.str.injEq, List.cons.injEq, and_true, true_and, exists_eq_left', exists_eq_left, exists_eq', exists_eq, exists_and_left, Nat.reduceSub, Nat.reduceAdd, Nat.reduceLeDiff, decide_true, decide_false, if_true, if_false, Bool.false_eq_true, reduceIte])

section
variable {X : Cx} {P : Program} {w : World} {K : PySem.W.Frag} {T : List (Addr × Str)} {D : Ends} {sc d c qg : Addr} {H : Hp} {z2 z3 z4 z5 z6 z7 z8 z9 z10 z11 z12 z13 z14 z15 z16 z17 z18 z19 z20 z21 z22 z23 z24 z25 z26 : Option V}
/-- a lap ends as it began -/
theorem w_lap (hP : X.prog = P) (hw : X.w = w) (src : Src H d c) (tabs : Tabs T H) (hk : ∀ σ' H', (∃ z2 z3 z4 z5 z6 z7 z8 z9 z10 z11 z12 z13 z14 z15 z16 z17 z18 z19 z20 z21 z22 z23 z24 z25 z26, σ' = [some (V.ref sc), some (V.ref d), z2, z3, z4, z5, z6, z7, z8, z9, z10, z11, z12, z13, z14, z15, z16, z17, z18, z19, z20, z21, z22, z23, z24, z25, z26]) → Src H' d c → Tabs T H' → D.nx σ' H') : rdLap X P w K T qg D [some (V.ref sc), some (V.ref d), z2, z3, z4, z5, z6, z7, z8, z9, z10, z11, z12, z13, z14, z15, z16, z17, z18, z19, z20, z21, z22, z23, z24, z25, z26] H := by
  unfold rdLap
  refine tseq (w_join src fun vl vr vk vp q H1 dr1 src1 tl1 tr1 tk1 tp1 dq => ?_)
  refine tseq (w_sides src1 dq tl1 tr1 fun sa s0 s1 x0 x1 L0 R H2 dr2 src2 nsd nsc hsa n0d n0c n1d n1c h0 h1 n0 n1 t0 t1 gL gR lL lR => ?_)
  refine tseq (w_add (q := q) src2 nsd nsc hsa n0d n0c n1d n1c h0 h1 n0 n1 t0 t1 gL lL fun s2 x2 L H3 ts3 tab3 src3 hsa3 n2d n2c n2 h2 h13 t2 t13 gL3 lL3 => ?_)
  refine tseq (w_parts (q := q) src3 nsd nsc hsa3 n2d n2c n1d n1c h2 h13 t2 t13 gL3 gR lL3 (by omega) fun pa v0 v1 px py H4 dr4 src4 npd npc hpa tv0 tv1 pL pR => ?_)
  have ts14 : TS H1 H4 := (dr2.ts.trans ts3).trans dr4.ts
  have tabs4 : Tabs T H4 := dr4.tabs (tab3 (dr2.tabs (dr1.tabs tabs)))
  have tl4 := Tp.ts ts14 _ _ tl1
  have tr4 := Tp.ts ts14 _ _ tr1
  have tk4 := Tp.ts ts14 _ _ tk1
  have tp4 := Tp.ts ts14 _ _ tp1
  refine tseq (w_query (T := T) tl4 tr4 tk4 fun vq0 H5 e5 tq5 => ?_)
  refine tseq (w_told (T := T) (src4.sm e5) tq5 (e5.lst hpa) (Tp.ts e5.ts _ _ tv0) (Tp.ts e5.ts _ _ tv1) fun vq td H6 e6 ntd ntc tq6 told6 => ?_)
  have e56 := e5.trans e6
  have src6 := src4.sm e56
  have hsa4 := dr4.lst nsd nsc hsa3
  have h24 := dr4.lst n2d n2c h2
  have h14 := dr4.lst n1d n1c h13
  refine tseq (w_due src6 dq (Tp.ts e56.ts _ _ tp4) (e56.lst hsa4) (e56.lst h24) (e56.lst h14) (Tps.ts (dr4.ts.trans e56.ts) _ _ t2) (Tps.ts (dr4.ts.trans e56.ts) _ _ t13) gL3 gR lL3 (by omega) fun da H7 e7 nad nac due => ?_)
  have e47 := e56.trans e7
  have F7 : LapF T d c q px py L R vl vr vk vp vq v0 v1 pa td da H7 := ⟨src6.sm e7, e47.2 tabs4, dq, pL, pR, gL3, gR, lL3, by omega, Tp.ts e47.ts _ _ tl4, Tp.ts e47.ts _ _ tr4, Tp.ts e47.ts _ _ tk4, Tp.ts e47.ts _ _ tp4, Tp.ts e7.ts _ _ tq6, npd, npc, e47.lst hpa, Tp.ts e47.ts _ _ tv0, Tp.ts e47.ts _ _ tv1, ntd, ntc, told6.sm e7, nad, nac, due⟩
  refine tseq (w_if1 F7 fun H8 e8 => ?_)
  have F8 := F7.sm e8
  refine tseq (w_if2 F8 fun H9 e9 => ?_)
  have F9 := F8.sm e9
  refine tseq (w_if3 F9 hP hw fun H10 e10 => ?_)
  have F10 := F9.sm e10
  refine tseq (w_if4 F10 fun H11 e11 => ?_)
  have F11 := F10.sm e11
  refine tseq (w_turns F11 fun z14 z15 z16 H12 F12 => ?_)
  refine tseq (w_ends F12 fun ea m0 m1 H13 F13 hea => ?_)
  refine tseq (w_short F13 hea fun ha h0 h1 y0 y1 H14 e14 hha hh0 hh1 ty0 ty1 => ?_)
  have F14 := F13.sm e14
  refine tseq (w_here F14 (e14.lst hea) fun he H15 e15 told15 => ?_)
  have F15 := F14.sm e15
  refine w_last F15 hP hw (e15.lst hha) (e15.lst hh0) (e15.lst hh1) (Tps.ts e15.ts _ _ ty0) (Tps.ts e15.ts _ _ ty1) told15 fun H16 e16 => ?_
  exact hk _ _ ⟨_, _, _, _, _, _, _, _, _, _, _, _, _, _, _, _, _, _, _, _, _, _, _, _, _, rfl⟩ (F15.sm e16).src (F15.sm e16).tabs
end
theorem fn_mk {P : Program} {w : World} {K : PySem.W.Frag} {mg : Str → Option Value} {base : Heap} {x qual : Str} {params : Arguments} {body : List Stmt} {scope : Scope} {f : Addr} {fd : FuncData} {N ps : List Str} {k : Nat} {sp : Sp} (F : FunD K x qual params body scope [] [] f fd) (S : FnScope N ps scope) (len : ∀ vs H Q E, sp vs H Q E → vs.length = ps.length)
    (hbody : ∀ (cdv : Value) (A : Around) (outer : List Env) (s : Shared) (H : Hp) (vs : List V) (Q : VK) (E : XK), Room k (A.deeper (envOfC qual scope s.heap.objs.size f cdv)) → sp vs H Q E →
      ∃ t, PSs (cxOf CX0 P w K mg base N qual scope f cdv A outer s H E).nox body t ∧ t { nx := fun _ H' => Q .non H', rt := Q } (start N vs) H) : FnOk P w K mg base CX0 (k + 1) f fd ps sp :=
  F.ok S len fun cdv A outer s H vs Q E hr h => by
    obtain ⟨t, h1, h2⟩ := hbody cdv A outer s H vs Q E hr h
    exact ⟨t, PSs.nox h1, h2⟩
variable {P : Program} {w : World} {K : PySem.W.Frag} {mg : Str → Option Value} {base : Heap} {T : List (Addr × Str)} {f : Addr} {fd : FuncData}
abbrev N_law : List Str := ["_law_script", "_law_source", "_law_lap", "_law_left", "_law_right", "_law_keys", "_law_back", "_law_ahead", "_law_places", "_law_sides", "_law_parts", "_law_query", "_law_told", "_law_due", "_law_turn", "_law_things_here", "_law_found", "_law_ends", "_law_short", "_law_here", "_law_one", "_law_rows", "_law_part", "_law_end", "_law_row", "_law_lot", "_law_entry"]
theorem sc_law : FnScope N_law ["_law_script"] (defScope s_law) := ⟨rfl, rfl, rfl, by decide +kernel, rfl, by decide +kernel, by decide +kernel⟩
theorem ok_law (B : Bs mg) (D__law_open_cells : Df P w K mg base "_law_open_cells" 1 ["_law_script"] (sp_open K T)) (D__law_draw_join : Df P w K mg base "_law_draw_join" 3 ["_law_source"] (sp_draw_join T)) (D__law_pick : Df P w K mg base "_law_pick" 1 ["_law_source", "_law_most"] (sp_pick T)) (D__law_draw_row : Df P w K mg base "_law_draw_row" 2 ["_law_source", "_law_columns", "_law_low"] (sp_draw_row T)) (D__law_draw_entries : Df P w K mg base "_law_draw_entries" 3 ["_law_source", "_law_rows"] (sp_draw_entries T)) (D__law_every : Df P w K mg base "_law_every" 6 ["_law_places", "_law_lefts", "_law_rights"] (sp_every T)) (D_join_of : Df P w K mg base "join_of" 1 ["left", "right", "keys", "back", "ahead"] (sp_join_of T)) (D_columns_of : Df P w K mg base "columns_of" 2 ["query", "name"] (sp_columns_of T)) (D_joined_columns : Df P w K mg base "joined_columns" 1 ["left", "right", "keys"] (sp_joined T)) (D_meaning : Df P w K mg base "meaning" 8 ["query", "told"] (sp_meaning P w T)) (D_whole : Df P w K mg base "whole" 9 ["query", "told"] (sp_whole P w T)) (D__law_bag : Df P w K mg base "_law_bag" 1 ["_law_rows"] (sp_bag P w T)) (D_rows_with_lots : Df P w K mg base "rows_with_lots" 7 ["query", "told"] (sp_rwl T)) (D__law_weave : Df P w K mg base "_law_weave" 2 ["_law_source", "_law_parts"] (sp_weave T)) (D__law_things : Df P w K mg base "_law_things" 1 ["_law_woven_entries"] (sp_things T)) (D_woven : Df P w K mg base "woven" 9 ["join", "things"] (sp_woven T)) (D__law_given_rank : Df P w K mg base "_law_given_rank" 3 ["_law_row"] (sp_lgiven T)) (D_judge_pairs : Df P w K mg base "judge_pairs" 7 ["join", "things", "value"] (sp_judge T)) (D_all_pairs : Df P w K mg base "all_pairs" 6 ["join", "things"] (sp_all_pairs T)) (D_cut : Df P w K mg base "cut" 1 ["told", "places"] (sp_cut P w T)) {q__law_given_rank : Addr} (g__law_given_rank : mg "_law_given_rank" = some (.ref q__law_given_rank)) (hg : mg "law" = some (.ref f)) (F : FnP K "law" s_law f fd) : FnOk P w K mg base CX0 20 f fd ["_law_script"] (sp_law K T) := by
  refine fn_mk F sc_law (fun vs H Q E h => ?_) (fun cdv A outer s H vs Q E hr h => ?_)
  · obtain ⟨_, _, rfl, _⟩ := h
    rfl
  · obtain ⟨sc, ns, rfl, hsc, hns, hT, k⟩ := h
    refine ⟨rdLaw (cxOf CX0 P w K mg base N_law "law" (defScope s_law) f cdv A outer s H E).nox P w K T q__law_given_rank,
      (pss_cons (ps_set (i := 1) sc_law.nd rfl (by first | exact Or.inl rfl | exact Or.inr rfl) (pe_df D__law_open_cells hr (pa_cons (pv 0) pa_nil)))
    (pss_cons (ps_for PassesOwn.never rfl (pi_range1 (by rfl) B.range_ (pa_cons pe_int pa_nil)) (pg_name (i := 2) sc_law.nd rfl (by first | exact Or.inl rfl | exact Or.inr rfl))
    (pss_cons (ps_asg (pe_df D__law_draw_join hr (pa_cons (pv 1) pa_nil)) (pg_lstK (n := 6) (K := K) rfl rfl (pgs_cons (pg_name (i := 3) sc_law.nd rfl (by first | exact Or.inl rfl | exact Or.inr rfl)) (pgs_cons (pg_name (i := 4) sc_law.nd rfl (by first | exact Or.inl rfl | exact Or.inr rfl)) (pgs_cons (pg_name (i := 5) sc_law.nd rfl (by first | exact Or.inl rfl | exact Or.inr rfl)) (pgs_cons (pg_name (i := 6) sc_law.nd rfl (by first | exact Or.inl rfl | exact Or.inr rfl)) (pgs_cons (pg_name (i := 7) sc_law.nd rfl (by first | exact Or.inl rfl | exact Or.inr rfl)) (pgs_cons (pg_name (i := 8) sc_law.nd rfl (by first | exact Or.inl rfl | exact Or.inr rfl)) pgs_nil))))))))
    (pss_cons (ps_setLc (i := 9) (own := [("_law_one", 20)]) (by rfl) sc_law.nd rfl rfl (sw_true rfl rfl rfl (by decide +kernel)) (pi_tupK (K := K) rfl (pe_tup (pa_cons (pv 3) (pa_cons (pv 4) pa_nil)))) (blkOk_by (N := N_law) (sc := defScope s_law) (by decide +kernel)) (fun _ _ _ _ _ => (pg_name (i := 20) sc_law.nd rfl (by first | exact Or.inl rfl | exact Or.inr rfl))) (fun _ _ _ _ _ => pts_nil) (fun _ _ _ _ _ => (pe_lc (own := [("_law_turn", 14)]) (by rfl) sc_law.nd (pi_range1 (by rfl) B.range_ (pa_cons (pe_op op_add pe_int (pe_df D__law_pick hr (pa_cons (pv 1) (pa_cons pe_int pa_nil)))) pa_nil)) (blkOk_by (N := N_law) (sc := (relS _ (defScope s_law))) (by decide +kernel)) (fun _ _ _ _ _ => (pg_name (i := 14) sc_law.nd rfl (by first | exact Or.inl rfl | exact Or.inr rfl))) (fun _ _ _ _ _ => pts_nil) (fun _ _ _ _ _ => (pe_df D__law_draw_row hr (pa_cons (pv 1) (pa_cons (pv 20) (pa_cons pe_int pa_nil))))))))
    (pss_cons (ps_asg (pe_op op_cat (pe_ix (ix_listK (K := K) rfl) (pv 9) pe_int (fun _ _ => rfl)) (pe_slice (sl_listK (K := K) rfl) (pe_ix (ix_listK (K := K) rfl) (pv 9) pe_int (fun _ _ => rfl)) po_none (po_some (pe_df D__law_pick hr (pa_cons (pv 1) (pa_cons pe_int pa_nil)))))) (pg_sub (pv 9) pe_int set_list))
    (pss_cons (ps_setLc (i := 10) (own := [("_law_rows", 21)]) (by rfl) sc_law.nd rfl rfl (sw_true rfl rfl rfl (by decide +kernel)) (pi_listK (K := K) rfl (pv 9)) (blkOk_by (N := N_law) (sc := defScope s_law) (by decide +kernel)) (fun _ _ _ _ _ => (pg_name (i := 21) sc_law.nd rfl (by first | exact Or.inl rfl | exact Or.inr rfl))) (fun _ _ _ _ _ => pts_nil) (fun _ _ _ _ _ => (pe_df D__law_draw_entries hr (pa_cons (pv 1) (pa_cons (pv 21) pa_nil)))))
    (pss_cons (ps_set (i := 11) sc_law.nd rfl (by first | exact Or.inl rfl | exact Or.inr rfl) (pe_tup (pa_cons (pe_tup (pa_cons pe_str (pa_cons (pe_tup (pa_cons pe_str (pa_cons (pv 3) pa_nil))) pa_nil))) (pa_cons (pe_tup (pa_cons pe_str (pa_cons (pe_tup (pa_cons pe_str (pa_cons (pv 4) pa_nil))) pa_nil))) (pa_cons (pe_tup (pa_cons pe_str (pa_cons (pe_tup (pa_cons pe_str (pa_cons pe_str (pa_cons pe_str (pa_cons (pv 5) (pa_cons (pv 6) (pa_cons (pv 7) pa_nil))))))) pa_nil))) pa_nil)))))
    (pss_cons (ps_par (i := 11) (j := 12) (by rfl) sc_law.nd rfl rfl (by decide) rfl rfl (pa_cons (pe_op (op_catK (K := K) rfl) (pv 11) (pe_tup (pa_cons (pe_tup (pa_cons pe_str (pa_cons pe_str pa_nil))) pa_nil))) (pa_cons (pe_disp (pps_cons pe_str (pe_tup (pa_cons (pe_ix (ix_listK (K := K) rfl) (pv 10) pe_int (fun _ _ => rfl)) pa_nil)) (pps_cons pe_str (pe_tup (pa_cons (pe_ix (ix_listK (K := K) rfl) (pv 10) pe_int (fun _ _ => rfl)) pa_nil)) pps_nil)) (by rfl) (by rfl) (fun z => by cases z) (by decide)) pa_nil)) (by rfl))
    (pss_cons (ps_set (i := 13) sc_law.nd rfl (by first | exact Or.inl rfl | exact Or.inr rfl) (pe_df D__law_every hr (pa_cons (pv 8) (pa_cons (pe_ix (ix_listK (K := K) rfl) (pv 9) pe_int (fun _ _ => rfl)) (pa_cons (pe_ix (ix_listK (K := K) rfl) (pv 9) pe_int (fun _ _ => rfl)) pa_nil)))))
    (pss_cons (ps_if (pt_cmpR (op_neK hr.units) (pe_df D_join_of hr (pa_cons (pv 3) (pa_cons (pv 4) (pa_cons (pv 5) (pa_cons (pv 6) (pa_cons (pv 7) pa_nil)))))) (pv 8) (nomark _)) (pss_one (ps_ret pe_bl))
    pss_nil)
    (pss_cons (ps_if (pt_cmpR (op_neK hr.units) (pe_df D_columns_of hr (pa_cons (pv 11) (pa_cons pe_str pa_nil))) (pe_df D_joined_columns hr (pa_cons (pv 3) (pa_cons (pv 4) (pa_cons (pv 5) pa_nil)))) (nomark _)) (pss_one (ps_ret pe_bl))
    pss_nil)
    (pss_cons (ps_if (pt_cmpR (op_neDN2 hr.units) (pe_lst (pa_cons (pe_df D_meaning hr (pa_cons (pv 11) (pa_cons (pv 12) pa_nil))) (pa_cons (pe_df D_whole hr (pa_cons (pv 11) (pa_cons (pv 12) pa_nil))) pa_nil))) (pe_op op_rep (pe_lst (pa_cons (pe_df D__law_bag hr (pa_cons (pv 13) pa_nil)) pa_nil)) pe_int) (nomark _)) (pss_one (ps_ret pe_bl))
    pss_nil)
    (pss_cons (ps_if (pt_cmpR (op_neLK hr.units) (pe_lc (own := [("_law_row", 24), ("_law_lot", 25)]) (by rfl) sc_law.nd (pi_listK (K := K) rfl (pe_df D_rows_with_lots hr (pa_cons (pv 11) (pa_cons (pv 12) pa_nil)))) (blkOk_by (N := N_law) (sc := defScope s_law) (by decide +kernel)) (fun _ _ _ _ _ => (pg_tupK (n := 2) (K := K) rfl rfl (pgs_cons (pg_name (i := 24) sc_law.nd rfl (by first | exact Or.inl rfl | exact Or.inr rfl)) (pgs_cons (pg_name (i := 25) sc_law.nd rfl (by first | exact Or.inl rfl | exact Or.inr rfl)) pgs_nil)))) (fun _ _ _ _ _ => pts_nil) (fun _ _ _ _ _ => (pv 24))) (pv 13) (nomark _)) (pss_one (ps_ret pe_bl))
    pss_nil)
    (pss_cons (ps_for PassesOwn.never rfl (pi_range1 (by rfl) B.range_ (pa_cons pe_int pa_nil)) (pg_name (i := 14) sc_law.nd rfl (by first | exact Or.inl rfl | exact Or.inr rfl))
    (pss_cons (ps_set (i := 15) sc_law.nd rfl (by first | exact Or.inl rfl | exact Or.inr rfl) (pe_df D__law_things hr (pa_cons (pe_df D__law_weave hr (pa_cons (pv 1) (pa_cons (pv 10) pa_nil))) pa_nil)))
    (pss_cons (ps_set (i := 16) sc_law.nd rfl (by first | exact Or.inl rfl | exact Or.inr rfl) (pe_ix (ix_tupK (K := K) rfl) (pe_df D_woven hr (pa_cons (pv 8) (pa_cons (pv 15) pa_nil))) pe_int (fun _ _ => rfl)))
    (pss_cons (ps_if (PW.pt (pw_or (pt_cmpR (op_neLK hr.units) (pe_callBK (cr_sortK (T := T) (IR := rowIR) (en := lgivenK) (q := q__law_given_rank) (fun σ => keyfn_df D__law_given_rank g__law_given_rank hr (by decide) rowIR_lgiven σ) rowIR_sm hr.units) (by rfl) B.sorted_ (by decide +kernel) (pa_cons (pv 16) pa_nil) (pk_cons (pe_glob (v := .ref q__law_given_rank) rfl g__law_given_rank rfl) pk_nil)) (pv 13) (nomark _)) (pw_or1 (pt_cmpR op_notN (pe_df D_judge_pairs hr (pa_cons (pv 8) (pa_cons (pv 15) (pa_cons (pv 16) pa_nil)))) pe_non (nomark _))))) (pss_one (ps_ret pe_bl))
    pss_nil)
    (pss_one (ps_if (pt_cmpR (op_neLK hr.units) (pe_df D_all_pairs hr (pa_cons (pv 8) (pa_cons (pv 15) pa_nil))) (pv 13) (nomark _)) (pss_one (ps_ret pe_bl))
    pss_nil))))))
    (pss_cons (ps_setLc (i := 17) (own := [("_law_part", 22)]) (by rfl) sc_law.nd rfl rfl (sw_true rfl rfl rfl (by decide +kernel)) (pi_listK (K := K) rfl (pv 10)) (blkOk_by (N := N_law) (sc := defScope s_law) (by decide +kernel)) (fun _ _ _ _ _ => (pg_name (i := 22) sc_law.nd rfl (by first | exact Or.inl rfl | exact Or.inr rfl))) (fun _ _ _ _ _ => pts_nil) (fun _ _ _ _ _ => (pe_df D__law_pick hr (pa_cons (pv 1) (pa_cons (pe_op op_add (pe_callB (lenK (K := K) rfl) (by rfl) B.len_ (by decide +kernel) (pa_cons (pv 22) pa_nil)) pe_int) pa_nil)))))
    (pss_cons (ps_setLc (i := 18) (own := [("_law_part", 22), ("_law_end", 23)]) (by rfl) sc_law.nd rfl rfl (sw_true rfl rfl rfl (by decide +kernel)) (pi_zipK (K := K) rfl (by rfl) B.zip_ (pa_cons (pv 10) (pa_cons (pv 17) pa_nil))) (blkOk_by (N := N_law) (sc := defScope s_law) (by decide +kernel)) (fun _ _ _ _ _ => (pg_tupK (n := 2) (K := K) rfl rfl (pgs_cons (pg_name (i := 22) sc_law.nd rfl (by first | exact Or.inl rfl | exact Or.inr rfl)) (pgs_cons (pg_name (i := 23) sc_law.nd rfl (by first | exact Or.inl rfl | exact Or.inr rfl)) pgs_nil)))) (fun _ _ _ _ _ => pts_nil) (fun _ _ _ _ _ => (pe_lc (own := [("_law_entry", 26)]) (by rfl) sc_law.nd (pi_tupK (K := K) rfl (pe_slice (sl_tupK (K := K) rfl) (pv 22) po_none (po_some (pv 23)))) (blkOk_by (N := N_law) (sc := (relS _ (defScope s_law))) (by decide +kernel)) (fun _ _ _ _ _ => (pg_name (i := 26) sc_law.nd rfl (by first | exact Or.inl rfl | exact Or.inr rfl))) (fun _ _ _ _ _ => (pts_one (pt_cmpR op_eq (pe_ix (ix_tupK (K := K) rfl) (pv 26) pe_int (fun _ _ => rfl)) pe_str (nomark _)))) (fun _ _ _ _ _ => (pe_slice (sl_tupK (K := K) rfl) (pv 26) (po_some pe_int) po_none)))))
    (pss_cons (ps_set (i := 19) sc_law.nd rfl (by first | exact Or.inl rfl | exact Or.inr rfl) (pe_df D_cut hr (pa_cons (pv 12) (pa_cons ((pe_dispN (P := P) (w := w) rfl rfl (hu16 hr) (pps_cons (pe_tup (pa_cons pe_str (pa_cons pe_int pa_nil))) (pe_ix (ix_listK (K := K) rfl) (pv 17) pe_int (fun _ _ => rfl)) (pps_cons (pe_tup (pa_cons pe_str (pa_cons pe_int pa_nil))) (pe_ix (ix_listK (K := K) rfl) (pv 17) pe_int (fun _ _ => rfl)) pps_nil)) (by rfl) (by rfl) (fun z => by cases z) (by decide))) pa_nil))))
    (pss_one (ps_if (pt_cmpR (op_neDN hr.units) (pe_df D_meaning hr (pa_cons (pv 11) (pa_cons (pv 19) pa_nil))) (pe_df D__law_bag hr (pa_cons (pe_df D__law_every hr (pa_cons (pv 8) (pa_cons (pe_ix (ix_listK (K := K) rfl) (pv 18) pe_int (fun _ _ => rfl)) (pa_cons (pe_ix (ix_listK (K := K) rfl) (pv 18) pe_int (fun _ _ => rfl)) pa_nil)))) pa_nil)) (nomark _)) (pss_one (ps_ret pe_bl))
    pss_nil))))))))))))))))))
    (pss_one (ps_ret pe_bl))))
      , ?_⟩
    unfold rdLaw
    refine tseq ?_
    walk_at "rd2"
    refine ⟨sc, ns, rfl, hsc, hns, fun d c H1 e1 fd1 fc1 src1 => ?_⟩
    walk_at "rd2"
    refine ⟨2, rfl, by decide, by decide, ?_⟩
    refine for_it (walk_range (lo := 0) (n := 2)) (fun i σ' H' => (∃ z2 z3 z4 z5 z6 z7 z8 z9 z10 z11 z12 z13 z14 z15 z16 z17 z18 z19 z20 z21 z22 z23 z24 z25 z26, σ' = [some (V.ref sc), some (V.ref d), z2, z3, z4, z5, z6, z7, z8, z9, z10, z11, z12, z13, z14, z15, z16, z17, z18, z19, z20, z21, z22, z23, z24, z25, z26]) ∧ Src H' d c ∧ Tabs T H') ⟨⟨_, _, _, _, _, _, _, _, _, _, _, _, _, _, _, _, _, _, _, _, _, _, _, _, _, rfl⟩, src1, e1.2 hT⟩ (fun _ _ _ _ _ => trivial) (fun i x σ' H1 H2 hi p y => ?_) (fun σ' H' p => ?_)
    · obtain ⟨⟨z2, z3, z4, z5, z6, z7, z8, z9, z10, z11, z12, z13, z14, z15, z16, z17, z18, z19, z20, z21, z22, z23, z24, z25, z26, rfl⟩, src2, tab2⟩ := p
      obtain ⟨rfl, rfl⟩ := y
      exact w_lap rfl rfl src2 tab2 fun σ' H' hz s t => ⟨hz, s, t⟩
    · exact k H'
end K67
end
/-! ## K67End -/
set_option maxHeartbeats 8000000
/-! K67End: every def keeps its promise; the claim -/
namespace K67
open PySem PySem.Spec PyProof.Rows L2 LamX
section
variable {P : Program} {w : World} {K : PySem.W.Frag} {h : Heap} {mg : Str → Option Value} {f : Addr}
theorem bs_of (X : K.In h) (G : h.Ns mainGlobals mg) (c : He.SaysD fa fn K) : Bs mg where
  len_ := He.free_ok X G (c.fact 58 (f := .free "len") rfl)
  isinstance_ := He.free_ok X G (c.fact 59 (f := .free "isinstance") rfl)
  int_ := He.free_ok X G (c.fact 60 (f := .free "int") rfl)
  bool_ := He.free_ok X G (c.fact 61 (f := .free "bool") rfl)
  str_ := He.free_ok X G (c.fact 62 (f := .free "str") rfl)
  tuple_ := He.free_ok X G (c.fact 63 (f := .free "tuple") rfl)
  all_ := He.free_ok X G (c.fact 64 (f := .free "all") rfl)
  sorted_ := He.free_ok X G (c.fact 65 (f := .free "sorted") rfl)
  max_ := He.free_ok X G (c.fact 66 (f := .free "max") rfl)
  min_ := He.free_ok X G (c.fact 67 (f := .free "min") rfl)
  dict_ := He.free_ok X G (c.fact 68 (f := .free "dict") rfl)
  list_ := He.free_ok X G (c.fact 69 (f := .free "list") rfl)
  range_ := He.free_ok X G (c.fact 70 (f := .free "range") rfl)
  enumerate_ := He.free_ok X G (c.fact 71 (f := .free "enumerate") rfl)
  zip_ := He.free_ok X G (c.fact 72 (f := .free "zip") rfl)
  abs_ := He.free_ok X G (c.fact 73 (f := .free "abs") rfl)
  END_marks := He.int_ok X G (c.fact 74 (f := .int "END_marks" 1000000000) rfl)
  END_meaning := He.int_ok X G (c.fact 75 (f := .int "END_meaning" 1000000000) rfl)
  SIGNS := He.str_ok X G (c.fact 76 (f := .str "SIGNS" "abcdefghijklmnopqrstuvwxyzABCDEFGHIJKLMNOPQRSTUVWXYZ0123456789 -_") rfl)
def tabA (K : PySem.W.Frag) : Addr := (He.cT K ("in_order", none)).2
def tabR (K : PySem.W.Frag) : Addr := (He.cT K ("rows_with_lots", none)).2
def tabT (K : PySem.W.Frag) : List (Addr × Str) := [(tabA K, "in_order.<locals>.<lambda>"), (tabR K, "rows_with_lots.<locals>.<lambda>")]
theorem tab_u1 (hne : tabA K ≠ tabR K) : ∀ p ∈ tabT K, p.1 = tabA K → p.2 = ("in_order.<locals>.<lambda>" : Str) := fun p hp e => by
  rcases List.mem_cons.mp hp with rfl | hp
  · rfl
  · rw [List.mem_singleton.mp hp] at e
    exact absurd e.symm hne
theorem tab_u2 (hne : tabA K ≠ tabR K) : ∀ p ∈ tabT K, p.1 = tabR K → p.2 = ("rows_with_lots.<locals>.<lambda>" : Str) := fun p hp e => by
  rcases List.mem_cons.mp hp with rfl | hp
  · exact absurd e hne
  · rw [List.mem_singleton.mp hp]
theorem facts (X : K.In h) (G : h.Ns mainGlobals mg) (hfa : mg ("law" : Str) = some (.ref f)) (c : He.SaysD fa fn K) (hex : ex0 K = true) :
    ∃ fd : FuncData, (∀ (s : Shared) (v : Value), BindsTo s fd ⟨[v], []⟩ [("_law_script", v)]) ∧ ∀ base : Heap, K.In base → base.Ns mainGlobals mg → (∀ p ∈ tf.map (He.cT K), TabB base mg p.1 p.2) → FnOk P w K mg base CX0 20 f fd ["_law_script"] (spLaw K (tf.map (He.cT K))) := by
  have B := bs_of X G c
  have hne : tabA K ≠ tabR K := fun z => by
    have h1 : (!(tabA K == tabR K)) = true := hex
    rw [beq_iff_eq.mpr z] at h1
    cases h1
  have hg_is_integer_values := He.glo_ok X G (c.fact 0 (f := .glo "is_integer_values") rfl)
  obtain ⟨fd_is_integer_values, F_is_integer_values⟩ := c.def_ 0 (d := d_is_integer_values) rfl
  have hg_is_value := He.glo_ok X G (c.fact 1 (f := .glo "is_value") rfl)
  obtain ⟨fd_is_value, F_is_value⟩ := c.def_ 1 (d := d_is_value) rfl
  have hg_rank := He.glo_ok X G (c.fact 2 (f := .glo "rank") rfl)
  obtain ⟨fd_rank, F_rank⟩ := c.def_ 2 (d := d_rank) rfl
  have hg_ranks := He.glo_ok X G (c.fact 3 (f := .glo "ranks") rfl)
  obtain ⟨fd_ranks, F_ranks⟩ := c.def_ 3 (d := d_ranks) rfl
  have hg_made_of := He.glo_ok X G (c.fact 4 (f := .glo "made_of") rfl)
  obtain ⟨fd_made_of, F_made_of⟩ := c.def_ 4 (d := d_made_of) rfl
  have hg_columns_made := He.glo_ok X G (c.fact 5 (f := .glo "columns_made") rfl)
  obtain ⟨fd_columns_made, F_columns_made⟩ := c.def_ 5 (d := d_columns_made) rfl
  have hg_step_of := He.glo_ok X G (c.fact 6 (f := .glo "step_of") rfl)
  obtain ⟨fd_step_of, F_step_of⟩ := c.def_ 6 (d := d_step_of) rfl
  have hg_columns_of := He.glo_ok X G (c.fact 7 (f := .glo "columns_of") rfl)
  obtain ⟨fd_columns_of, F_columns_of⟩ := c.def_ 7 (d := d_columns_of) rfl
  have hg_steps_ahead := He.glo_ok X G (c.fact 8 (f := .glo "steps_ahead") rfl)
  obtain ⟨fd_steps_ahead, F_steps_ahead⟩ := c.def_ 8 (d := d_steps_ahead) rfl
  have hg_out_of := He.glo_ok X G (c.fact 9 (f := .glo "out_of") rfl)
  obtain ⟨fd_out_of, F_out_of⟩ := c.def_ 9 (d := d_out_of) rfl
  have hg_join_of := He.glo_ok X G (c.fact 10 (f := .glo "join_of") rfl)
  obtain ⟨fd_join_of, F_join_of⟩ := c.def_ 10 (d := d_join_of) rfl
  have hg_joined_columns := He.glo_ok X G (c.fact 11 (f := .glo "joined_columns") rfl)
  obtain ⟨fd_joined_columns, F_joined_columns⟩ := c.def_ 11 (d := d_joined_columns) rfl
  have hg_key_of := He.glo_ok X G (c.fact 12 (f := .glo "key_of") rfl)
  obtain ⟨fd_key_of, F_key_of⟩ := c.def_ 12 (d := d_key_of) rfl
  have hg_do_meet := He.glo_ok X G (c.fact 13 (f := .glo "do_meet") rfl)
  obtain ⟨fd_do_meet, F_do_meet⟩ := c.def_ 13 (d := d_do_meet) rfl
  have hg_pair := He.glo_ok X G (c.fact 14 (f := .glo "pair") rfl)
  obtain ⟨fd_pair, F_pair⟩ := c.def_ 14 (d := d_pair) rfl
  have hg_given_rank := He.glo_ok X G (c.fact 15 (f := .glo "given_rank") rfl)
  obtain ⟨fd_given_rank, F_given_rank⟩ := c.def_ 15 (d := d_given_rank) rfl
  have hg_kept_rank := He.glo_ok X G (c.fact 16 (f := .glo "kept_rank") rfl)
  obtain ⟨fd_kept_rank, F_kept_rank⟩ := c.def_ 16 (d := d_kept_rank) rfl
  have hg_in_order := He.glo_ok X G (c.fact 17 (f := .glo "in_order") rfl)
  obtain ⟨fd_in_order, F_in_order⟩ := c.def_ 17 (d := d_in_order) rfl
  have hg_fresh := He.glo_ok X G (c.fact 18 (f := .glo "fresh") rfl)
  obtain ⟨fd_fresh, F_fresh⟩ := c.def_ 18 (d := d_fresh) rfl
  have hg_put := He.glo_ok X G (c.fact 19 (f := .glo "put") rfl)
  obtain ⟨fd_put, F_put⟩ := c.def_ 19 (d := d_put) rfl
  have hg_is_integer_joins := He.glo_ok X G (c.fact 20 (f := .glo "is_integer_joins") rfl)
  obtain ⟨fd_is_integer_joins, F_is_integer_joins⟩ := c.def_ 20 (d := d_is_integer_joins) rfl
  have hg_marked := He.glo_ok X G (c.fact 21 (f := .glo "marked") rfl)
  obtain ⟨fd_marked, F_marked⟩ := c.def_ 21 (d := d_marked) rfl
  have hg_woven := He.glo_ok X G (c.fact 22 (f := .glo "woven") rfl)
  obtain ⟨fd_woven, F_woven⟩ := c.def_ 22 (d := d_woven) rfl
  have hg_all_pairs := He.glo_ok X G (c.fact 23 (f := .glo "all_pairs") rfl)
  obtain ⟨fd_all_pairs, F_all_pairs⟩ := c.def_ 23 (d := d_all_pairs) rfl
  have hg_is_row := He.glo_ok X G (c.fact 24 (f := .glo "is_row") rfl)
  obtain ⟨fd_is_row, F_is_row⟩ := c.def_ 24 (d := d_is_row) rfl
  have hg_judge_pairs := He.glo_ok X G (c.fact 25 (f := .glo "judge_pairs") rfl)
  obtain ⟨fd_judge_pairs, F_judge_pairs⟩ := c.def_ 25 (d := d_judge_pairs) rfl
  have hg_place_of := He.glo_ok X G (c.fact 26 (f := .glo "place_of") rfl)
  obtain ⟨fd_place_of, F_place_of⟩ := c.def_ 26 (d := d_place_of) rfl
  have hg_bag_of := He.glo_ok X G (c.fact 27 (f := .glo "bag_of") rfl)
  obtain ⟨fd_bag_of, F_bag_of⟩ := c.def_ 27 (d := d_bag_of) rfl
  have hg_cut := He.glo_ok X G (c.fact 28 (f := .glo "cut") rfl)
  obtain ⟨fd_cut, F_cut⟩ := c.def_ 28 (d := d_cut) rfl
  have hg_mark_of := He.glo_ok X G (c.fact 29 (f := .glo "mark_of") rfl)
  obtain ⟨fd_mark_of, F_mark_of⟩ := c.def_ 29 (d := d_mark_of) rfl
  have hg_marks_of := He.glo_ok X G (c.fact 30 (f := .glo "marks_of") rfl)
  obtain ⟨fd_marks_of, F_marks_of⟩ := c.def_ 30 (d := d_marks_of) rfl
  have hg_late_of := He.glo_ok X G (c.fact 31 (f := .glo "late_of") rfl)
  obtain ⟨fd_late_of, F_late_of⟩ := c.def_ 31 (d := d_late_of) rfl
  have hg_of_source := He.glo_ok X G (c.fact 32 (f := .glo "of_source") rfl)
  obtain ⟨fd_of_source, F_of_source⟩ := c.def_ 32 (d := d_of_source) rfl
  have hg_together := He.glo_ok X G (c.fact 33 (f := .glo "together") rfl)
  obtain ⟨fd_together, F_together⟩ := c.def_ 33 (d := d_together) rfl
  have hg_worths_of := He.glo_ok X G (c.fact 34 (f := .glo "worths_of") rfl)
  obtain ⟨fd_worths_of, F_worths_of⟩ := c.def_ 34 (d := d_worths_of) rfl
  have hg_by_keys := He.glo_ok X G (c.fact 35 (f := .glo "by_keys") rfl)
  obtain ⟨fd_by_keys, F_by_keys⟩ := c.def_ 35 (d := d_by_keys) rfl
  have hg_pairs_of := He.glo_ok X G (c.fact 36 (f := .glo "pairs_of") rfl)
  obtain ⟨fd_pairs_of, F_pairs_of⟩ := c.def_ 36 (d := d_pairs_of) rfl
  have hg_of_step := He.glo_ok X G (c.fact 37 (f := .glo "of_step") rfl)
  obtain ⟨fd_of_step, F_of_step⟩ := c.def_ 37 (d := d_of_step) rfl
  have hg_rows_with_lots := He.glo_ok X G (c.fact 38 (f := .glo "rows_with_lots") rfl)
  obtain ⟨fd_rows_with_lots, F_rows_with_lots⟩ := c.def_ 38 (d := d_rows_with_lots) rfl
  have hg_meaning := He.glo_ok X G (c.fact 39 (f := .glo "meaning") rfl)
  obtain ⟨fd_meaning, F_meaning⟩ := c.def_ 39 (d := d_meaning) rfl
  have hg_whole := He.glo_ok X G (c.fact 40 (f := .glo "whole") rfl)
  obtain ⟨fd_whole, F_whole⟩ := c.def_ 40 (d := d_whole) rfl
  have hg__law_rank := He.glo_ok X G (c.fact 41 (f := .glo "_law_rank") rfl)
  obtain ⟨fd__law_rank, F__law_rank⟩ := c.def_ 41 (d := d__law_rank) rfl
  have hg__law_bag := He.glo_ok X G (c.fact 42 (f := .glo "_law_bag") rfl)
  obtain ⟨fd__law_bag, F__law_bag⟩ := c.def_ 42 (d := d__law_bag) rfl
  have hg__law_open_cells := He.glo_ok X G (c.fact 43 (f := .glo "_law_open_cells") rfl)
  obtain ⟨fd__law_open_cells, F__law_open_cells⟩ := c.def_ 43 (d := d__law_open_cells) rfl
  have hg__law_pick := He.glo_ok X G (c.fact 44 (f := .glo "_law_pick") rfl)
  obtain ⟨fd__law_pick, F__law_pick⟩ := c.def_ 44 (d := d__law_pick) rfl
  have hg__law_any_order := He.glo_ok X G (c.fact 45 (f := .glo "_law_any_order") rfl)
  obtain ⟨fd__law_any_order, F__law_any_order⟩ := c.def_ 45 (d := d__law_any_order) rfl
  have hg__law_ranks := He.glo_ok X G (c.fact 46 (f := .glo "_law_ranks") rfl)
  obtain ⟨fd__law_ranks, F__law_ranks⟩ := c.def_ 46 (d := d__law_ranks) rfl
  have hg__law_draw_join := He.glo_ok X G (c.fact 47 (f := .glo "_law_draw_join") rfl)
  obtain ⟨fd__law_draw_join, F__law_draw_join⟩ := c.def_ 47 (d := d__law_draw_join) rfl
  have hg__law_draw_row := He.glo_ok X G (c.fact 48 (f := .glo "_law_draw_row") rfl)
  obtain ⟨fd__law_draw_row, F__law_draw_row⟩ := c.def_ 48 (d := d__law_draw_row) rfl
  have hg__law_key := He.glo_ok X G (c.fact 49 (f := .glo "_law_key") rfl)
  obtain ⟨fd__law_key, F__law_key⟩ := c.def_ 49 (d := d__law_key) rfl
  have hg__law_meet := He.glo_ok X G (c.fact 50 (f := .glo "_law_meet") rfl)
  obtain ⟨fd__law_meet, F__law_meet⟩ := c.def_ 50 (d := d__law_meet) rfl
  have hg__law_pair := He.glo_ok X G (c.fact 51 (f := .glo "_law_pair") rfl)
  obtain ⟨fd__law_pair, F__law_pair⟩ := c.def_ 51 (d := d__law_pair) rfl
  have hg__law_given_rank := He.glo_ok X G (c.fact 52 (f := .glo "_law_given_rank") rfl)
  obtain ⟨fd__law_given_rank, F__law_given_rank⟩ := c.def_ 52 (d := d__law_given_rank) rfl
  have hg__law_every := He.glo_ok X G (c.fact 53 (f := .glo "_law_every") rfl)
  obtain ⟨fd__law_every, F__law_every⟩ := c.def_ 53 (d := d__law_every) rfl
  have hg__law_draw_entries := He.glo_ok X G (c.fact 54 (f := .glo "_law_draw_entries") rfl)
  obtain ⟨fd__law_draw_entries, F__law_draw_entries⟩ := c.def_ 54 (d := d__law_draw_entries) rfl
  have hg__law_weave := He.glo_ok X G (c.fact 55 (f := .glo "_law_weave") rfl)
  obtain ⟨fd__law_weave, F__law_weave⟩ := c.def_ 55 (d := d__law_weave) rfl
  have hg__law_things := He.glo_ok X G (c.fact 56 (f := .glo "_law_things") rfl)
  obtain ⟨fd__law_things, F__law_things⟩ := c.def_ 56 (d := d__law_things) rfl
  have hg_law := He.glo_ok X G (c.fact 57 (f := .glo "law") rfl)
  obtain ⟨fd_law, F_law⟩ := c.def_ 57 (d := d_law) rfl
  have e := hfa.symm.trans hg_law
  cases e
  have b := FunD.bindsA (ps := ["_law_script"]) F_law fun _ _ _ _ _ _ us hl => match us, hl with | [_], _ => rfl
  refine ⟨fd_law, fun s v => b s [v] rfl, fun base hb hn htb => ?_⟩
  have TA : TabB base mg (He.codeOf K ("in_order", none)) (tabA K) := htb (He.cT K ("in_order", none)) List.mem_cons_self
  have TR : TabB base mg (He.codeOf K ("rows_with_lots", none)) (tabR K) := htb (He.cT K ("rows_with_lots", none)) (List.mem_cons_of_mem _ List.mem_cons_self)
  have D_rank := ok_rank (P := P) (w := w) (K := K) (mg := mg) (base := base) (T := tabT K) B hg_rank F_rank
  have D_ranks := ok_ranks (P := P) (w := w) (K := K) (mg := mg) (base := base) (T := tabT K) B D_rank hg_ranks F_ranks
  have D_key_of := ok_key_of (P := P) (w := w) (K := K) (mg := mg) (base := base) (T := tabT K) B hg_key_of F_key_of
  have D_do_meet := ok_do_meet (P := P) (w := w) (K := K) (mg := mg) (base := base) (T := tabT K) B D_key_of hg_do_meet F_do_meet
  have D_pair := ok_pair (P := P) (w := w) (K := K) (mg := mg) (base := base) (T := tabT K) B hg_pair F_pair
  have D_given_rank := ok_given_rank (P := P) (w := w) (K := K) (mg := mg) (base := base) (T := tabT K) B D_ranks hg_given_rank F_given_rank
  have D_kept_rank := ok_kept_rank (P := P) (w := w) (K := K) (mg := mg) (base := base) (T := tabT K) B D_key_of D_ranks hg_kept_rank F_kept_rank
  have D_made_of := ok_made_of (P := P) (w := w) (K := K) (mg := mg) (base := base) (T := tabT K) B hg_made_of F_made_of
  have D_step_of := ok_step_of (P := P) (w := w) (K := K) (mg := mg) (base := base) (T := tabT K) B hg_step_of F_step_of
  have D_steps_ahead := ok_steps_ahead (P := P) (w := w) (K := K) (mg := mg) (base := base) (T := tabT K) B D_made_of D_step_of hg_steps_ahead F_steps_ahead
  have D_out_of := ok_out_of (P := P) (w := w) (K := K) (mg := mg) (base := base) B hg_out_of F_out_of
  have D_columns_made := ok_columns_made (P := P) (w := w) (K := K) (mg := mg) (base := base) (T := tabT K) B hg_columns_made F_columns_made
  have D_columns_of := ok_columns_of (P := P) (w := w) (K := K) (mg := mg) (base := base) (T := tabT K) B D_columns_made hg_columns_of F_columns_of
  have D_bag_of := ok_bag_of (P := P) (w := w) (K := K) (mg := mg) (base := base) (T := tabT K) B hg_bag_of F_bag_of
  have D__law_bag := ok__law_bag (P := P) (w := w) (K := K) (mg := mg) (base := base) (T := tabT K) B hg__law_bag F__law_bag
  have D_place_of := ok_place_of (P := P) (w := w) (K := K) (mg := mg) (base := base) (T := tabT K) B D_ranks hg_place_of F_place_of
  have D_together := ok_together (P := P) (w := w) (K := K) (mg := mg) (base := base) (T := tabT K) B hg_together F_together
  have D_worths_of := ok_worths_of (P := P) (w := w) (K := K) (mg := mg) (base := base) (T := tabT K) B hg_worths_of F_worths_of
  have D_mark_of := ok_mark_of (P := P) (w := w) (K := K) (mg := mg) (base := base) (T := tabT K) B hg_mark_of F_mark_of
  have D_late_of := ok_late_of (P := P) (w := w) (K := K) (mg := mg) (base := base) (T := tabT K) B hg_late_of F_late_of
  have D_of_source := ok_of_source (P := P) (w := w) (K := K) (mg := mg) (base := base) (T := tabT K) B D_late_of hg_of_source F_of_source
  have D_marks_of := ok_marks_of (P := P) (w := w) (K := K) (mg := mg) (base := base) (T := tabT K) B D_mark_of D_steps_ahead hg_marks_of F_marks_of
  have D_cut := ok_cut (P := P) (w := w) (K := K) (mg := mg) (base := base) (T := tabT K) B hg_cut F_cut
  have D_by_keys := ok_by_keys (P := P) (w := w) (K := K) (mg := mg) (base := base) (T := tabT K) B D_worths_of hg_by_keys F_by_keys
  have D_pairs_of := ok_pairs_of (P := P) (w := w) (K := K) (mg := mg) (base := base) (T := tabT K) B D_by_keys D_worths_of D_together hg_pairs_of F_pairs_of
  have D_of_step := ok_of_step (P := P) (w := w) (K := K) (mg := mg) (base := base) (T := tabT K) B D_step_of D_steps_ahead D_columns_of D_of_source D_pairs_of hg_of_step F_of_step
  have D_rows_with_lots := ok_rows_with_lots (P := P) (w := w) (K := K) (mg := mg) (base := base) (T := tabT K) B D_marks_of D_of_step D_out_of D_place_of rfl TR (List.mem_cons_of_mem _ List.mem_cons_self) (tab_u2 hne) hg_rows_with_lots F_rows_with_lots
  have D_meaning := ok_meaning (P := P) (w := w) (K := K) (mg := mg) (base := base) (T := tabT K) B D_rows_with_lots D_bag_of hg_meaning F_meaning
  have D_whole := ok_whole (P := P) (w := w) (K := K) (mg := mg) (base := base) (T := tabT K) B D_meaning hg_whole F_whole
  have D_joined_columns := ok_joined_columns (P := P) (w := w) (K := K) (mg := mg) (base := base) (T := tabT K) B hg_joined_columns F_joined_columns
  have D_join_of := ok_join_of (P := P) (w := w) (K := K) (mg := mg) (base := base) (T := tabT K) B hg_join_of F_join_of
  have D_in_order := ok_in_order (P := P) (w := w) (K := K) (mg := mg) (base := base) (T := tabT K) B D_kept_rank rfl TA List.mem_cons_self (tab_u1 hne) hg_in_order F_in_order
  have D_fresh := ok_fresh (P := P) (w := w) (K := K) (mg := mg) (base := base) (T := tabT K) B hg_fresh F_fresh
  have D_marked := ok_marked (P := P) (w := w) (K := K) (mg := mg) (base := base) (T := tabT K) B hg_marked F_marked
  have D_put := ok_put (P := P) (w := w) (K := K) (mg := mg) (base := base) (T := tabT K) B D_do_meet D_pair D_in_order D_given_rank hg_given_rank hg_put F_put
  have D_woven := ok_woven (P := P) (w := w) (K := K) (mg := mg) (base := base) (T := tabT K) B D_fresh D_put D_marked hg_woven F_woven
  have D_all_pairs := ok_all_pairs (P := P) (w := w) (K := K) (mg := mg) (base := base) (T := tabT K) B D_do_meet D_pair D_given_rank hg_given_rank hg_all_pairs F_all_pairs
  have D_is_integer_values := ok_is_integer_values (P := P) (w := w) (K := K) (mg := mg) (base := base) B hg_is_integer_values F_is_integer_values
  have D_is_integer_joins := ok_is_integer_joins (P := P) (w := w) (K := K) (mg := mg) (base := base) B hg_is_integer_joins F_is_integer_joins
  have D_is_value := ok_is_value (P := P) (w := w) (K := K) (mg := mg) (base := base) (T := tabT K) B D_is_integer_values hg_is_value F_is_value
  have D_is_row := ok_is_row (P := P) (w := w) (K := K) (mg := mg) (base := base) (T := tabT K) B D_is_integer_joins D_is_value hg_is_row F_is_row
  have D_judge_pairs := ok_judge_pairs (P := P) (w := w) (K := K) (mg := mg) (base := base) (T := tabT K) B D_is_row D_all_pairs hg_judge_pairs F_judge_pairs
  have D__law_rank := ok__law_rank (P := P) (w := w) (K := K) (mg := mg) (base := base) (T := tabT K) B hg__law_rank F__law_rank
  have D__law_ranks := ok__law_ranks (P := P) (w := w) (K := K) (mg := mg) (base := base) (T := tabT K) B D__law_rank hg__law_ranks F__law_ranks
  have D__law_key := ok__law_key (P := P) (w := w) (K := K) (mg := mg) (base := base) (T := tabT K) B hg__law_key F__law_key
  have D__law_meet := ok__law_meet (P := P) (w := w) (K := K) (mg := mg) (base := base) (T := tabT K) B D__law_key hg__law_meet F__law_meet
  have D__law_pair := ok__law_pair (P := P) (w := w) (K := K) (mg := mg) (base := base) (T := tabT K) B hg__law_pair F__law_pair
  have D__law_given_rank := ok__law_given_rank (P := P) (w := w) (K := K) (mg := mg) (base := base) (T := tabT K) B D__law_ranks hg__law_given_rank F__law_given_rank
  have D__law_every := ok__law_every (P := P) (w := w) (K := K) (mg := mg) (base := base) (T := tabT K) B D__law_meet D__law_pair D__law_given_rank hg__law_given_rank hg__law_every F__law_every
  have D__law_things := ok__law_things (P := P) (w := w) (K := K) (mg := mg) (base := base) (T := tabT K) B hg__law_things F__law_things
  have D__law_open_cells := ok__law_open_cells (P := P) (w := w) (K := K) (mg := mg) (base := base) (T := tabT K) B hg__law_open_cells F__law_open_cells
  have D__law_pick := ok__law_pick (P := P) (w := w) (K := K) (mg := mg) (base := base) (T := tabT K) B hg__law_pick F__law_pick
  have D__law_any_order := ok__law_any_order (P := P) (w := w) (K := K) (mg := mg) (base := base) (T := tabT K) B D__law_pick hg__law_any_order F__law_any_order
  have D__law_draw_row := ok__law_draw_row (P := P) (w := w) (K := K) (mg := mg) (base := base) (T := tabT K) B D__law_pick hg__law_draw_row F__law_draw_row
  have D__law_draw_entries := ok__law_draw_entries (P := P) (w := w) (K := K) (mg := mg) (base := base) (T := tabT K) B D__law_pick D__law_any_order hg__law_draw_entries F__law_draw_entries
  have D__law_draw_join := ok__law_draw_join (P := P) (w := w) (K := K) (mg := mg) (base := base) (T := tabT K) B D__law_pick D__law_any_order hg__law_draw_join F__law_draw_join
  have D__law_weave := ok__law_weave (P := P) (w := w) (K := K) (mg := mg) (base := base) (T := tabT K) B D__law_pick hg__law_weave F__law_weave
  have D_law := ok_law (P := P) (w := w) (K := K) (mg := mg) (base := base) (T := tabT K) B D__law_open_cells D__law_draw_join D__law_pick D__law_draw_row D__law_draw_entries D__law_every D_join_of D_columns_of D_joined_columns D_meaning D_whole D__law_bag D_rows_with_lots D__law_weave D__law_things D_woven D__law_given_rank D_judge_pairs D_all_pairs D_cut hg__law_given_rank hg_law F_law
  refine D_law.imp fun vs H Q E z => ?_
  obtain ⟨a, ns, rfl, hs, hl, ht, k⟩ := z
  refine ⟨a, ns, rfl, hs, hl, fun p hp => ?_, k⟩
  rcases List.mem_cons.mp hp with rfl | hp
  · exact TabS.nil (ht (He.cT K ("in_order", none)) List.mem_cons_self)
  · rw [List.mem_singleton.mp hp]
    exact TabS.nil (ht (He.cT K ("rows_with_lots", none)) (List.mem_cons_of_mem _ List.mem_cons_self))
end
end K67
open PySem PySem.W PySem.Calls PyProof.Rows
set_option maxRecDepth 100000 in
set_option maxHeartbeats 8000000 in
theorem PySem.Challenge.cw_oncestream_k67_whole_joins_are_the_meani_holds : PySem.Challenge.rw_oncestream_k67_whole_joins_are_the_meani.Holds := by
  exact K67.holds_of fun X G hfa c hne => K67.facts X G hfa c hne
