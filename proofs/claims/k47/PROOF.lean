import PyProof.Rows.All
import Wide.All
import OpenK.AllK
import Wide.FinOn
import HandS.ForMost
import HandS.ForExc
import HandS.IsInst
import HandS.Flow
import HandS.Wide
import HandS.Style
import HandS.Defaults
import HandS.Head0
import HandS.Head1
import HandS.Head2
import HandS.HeadHook1
import HandS.HeadHook2
import KE.KBits
import KE.BitLaws
import KE.KEqDict
import HandS.Iter
import HandS.SortRule
import HandS.ClsMeth
import HandS.ExcInit
import HandS.SortInts
import HandS.More
import HandS.WordsDict
import HandS.ExcIs
import HandS.ExcField
import HandS.ExcOwn
import KE.KExcIs
import HandS.TryOnly
import HandS.DictComp
import KE.KSortKey
import HandS.SortKw
import HandS.ListItems
import HandS.Walk
import HandS.SetKeys
import HandS.Rev
import HandS.SetFor
import HandS.TryMany
import PySem.Challenge.RW_staywalk_k47_whole_walk_through_a_moment
set_option Elab.async false
set_option linter.all false
set_option maxRecDepth 100000
set_option maxHeartbeats 4000000
namespace Toy
open PySem L2
def top (i : Nat) : Stmt := PySem.Challenge.pw_staywalk_k47_whole_walk_through_a_moment.main.body.getD i (.Pass ⟨0, 0, 0, 0⟩)
abbrev s_Leaves_init : Stmt := inClass (top 11) 0
abbrev n_Leaves_init : List Str := ["self"]
theorem sc_Leaves_init : FnScope n_Leaves_init ["self"] (defScope s_Leaves_init) := ⟨rfl, rfl, rfl, by decide +kernel, rfl, by decide +kernel, by decide +kernel⟩
abbrev s_Makes_init : Stmt := inClass (top 14) 0
abbrev n_Makes_init : List Str := ["self"]
theorem sc_Makes_init : FnScope n_Makes_init ["self"] (defScope s_Makes_init) := ⟨rfl, rfl, rfl, by decide +kernel, rfl, by decide +kernel, by decide +kernel⟩
abbrev s_Bank_init : Stmt := inClass (top 22) 0
abbrev n_Bank_init : List Str := ["self", "size", "slot"]
theorem sc_Bank_init : FnScope n_Bank_init ["self", "size"] (defScope s_Bank_init) := ⟨rfl, rfl, rfl, by decide +kernel, rfl, by decide +kernel, by decide +kernel⟩
abbrev s_Slots_init : Stmt := inClass (top 23) 0
abbrev n_Slots_init : List Str := ["self"]
theorem sc_Slots_init : FnScope n_Slots_init ["self"] (defScope s_Slots_init) := ⟨rfl, rfl, rfl, by decide +kernel, rfl, by decide +kernel, by decide +kernel⟩
abbrev s_House_init : Stmt := inClass (top 35) 0
abbrev n_House_init : List Str := ["self"]
theorem sc_House_init : FnScope n_House_init ["self"] (defScope s_House_init) := ⟨rfl, rfl, rfl, by decide +kernel, rfl, by decide +kernel, by decide +kernel⟩
abbrev s_House_held : Stmt := inClass (top 35) 12
abbrev n_House_held : List Str := ["self"]
theorem sc_House_held : FnScope n_House_held ["self"] (defScope s_House_held) := ⟨rfl, rfl, rfl, by decide +kernel, rfl, by decide +kernel, by decide +kernel⟩
abbrev s_House_hold : Stmt := inClass (top 35) 10
abbrev n_House_hold : List Str := ["self"]
theorem sc_House_hold : FnScope n_House_hold ["self"] (defScope s_House_hold) := ⟨rfl, rfl, rfl, by decide +kernel, rfl, by decide +kernel, by decide +kernel⟩
abbrev s_House_let_go : Stmt := inClass (top 35) 11
abbrev n_House_let_go : List Str := ["self", "moment"]
theorem sc_House_let_go : FnScope n_House_let_go ["self", "moment"] (defScope s_House_let_go) := ⟨rfl, rfl, rfl, by decide +kernel, rfl, by decide +kernel, by decide +kernel⟩
abbrev s_Makes_add : Stmt := inClass (top 14) 1
abbrev n_Makes_add : List Str := ["self", "key", "moment", "value"]
theorem sc_Makes_add : FnScope n_Makes_add ["self", "key", "moment", "value"] (defScope s_Makes_add) := ⟨rfl, rfl, rfl, by decide +kernel, rfl, by decide +kernel, by decide +kernel⟩
abbrev s_House_done : Stmt := inClass (top 35) 1
abbrev n_House_done : List Str := ["self", "row", "key", "value"]
theorem sc_House_done : FnScope n_House_done ["self", "row", "key", "value"] (defScope s_House_done) := ⟨rfl, rfl, rfl, by decide +kernel, rfl, by decide +kernel, by decide +kernel⟩
abbrev s_Leaves_leaf_at : Stmt := inClass (top 11) 1
abbrev n_Leaves_leaf_at : List Str := ["self", "key", "low", "high", "middle"]
theorem sc_Leaves_leaf_at : FnScope n_Leaves_leaf_at ["self", "key"] (defScope s_Leaves_leaf_at) := ⟨rfl, rfl, rfl, by decide +kernel, rfl, by decide +kernel, by decide +kernel⟩
abbrev s_Leaves_has : Stmt := inClass (top 11) 2
abbrev n_Leaves_has : List Str := ["self", "key"]
theorem sc_Leaves_has : FnScope n_Leaves_has ["self", "key"] (defScope s_Leaves_has) := ⟨rfl, rfl, rfl, by decide +kernel, rfl, by decide +kernel, by decide +kernel⟩
abbrev s_Leaves_add : Stmt := inClass (top 11) 4
abbrev n_Leaves_add : List Str := ["self", "key", "at", "leaf"]
theorem sc_Leaves_add : FnScope n_Leaves_add ["self", "key"] (defScope s_Leaves_add) := ⟨rfl, rfl, rfl, by decide +kernel, rfl, by decide +kernel, by decide +kernel⟩
abbrev s_mark_of : Stmt := top 17
abbrev n_mark_of : List Str := ["key"]
theorem sc_mark_of : FnScope n_mark_of ["key"] (defScope s_mark_of) := ⟨rfl, rfl, rfl, by decide +kernel, rfl, by decide +kernel, by decide +kernel⟩
abbrev s_slot_of : Stmt := top 18
abbrev n_slot_of : List Str := ["key", "size"]
theorem sc_slot_of : FnScope n_slot_of ["key", "size"] (defScope s_slot_of) := ⟨rfl, rfl, rfl, by decide +kernel, rfl, by decide +kernel, by decide +kernel⟩
abbrev s_Bank_lot_of : Stmt := inClass (top 22) 1
abbrev n_Bank_lot_of : List Str := ["self", "key"]
theorem sc_Bank_lot_of : FnScope n_Bank_lot_of ["self", "key"] (defScope s_Bank_lot_of) := ⟨rfl, rfl, rfl, by decide +kernel, rfl, by decide +kernel, by decide +kernel⟩
abbrev s_Slots_home : Stmt := inClass (top 23) 2
abbrev n_Slots_home : List Str := ["self", "key"]
theorem sc_Slots_home : FnScope n_Slots_home ["self", "key"] (defScope s_Slots_home) := ⟨rfl, rfl, rfl, by decide +kernel, rfl, by decide +kernel, by decide +kernel⟩
abbrev s_Slots_has : Stmt := inClass (top 23) 9
abbrev n_Slots_has : List Str := ["self", "key"]
theorem sc_Slots_has : FnScope n_Slots_has ["self", "key"] (defScope s_Slots_has) := ⟨rfl, rfl, rfl, by decide +kernel, rfl, by decide +kernel, by decide +kernel⟩
abbrev s_Slots_begin_row : Stmt := inClass (top 23) 4
abbrev n_Slots_begin_row : List Str := ["self", "size"]
theorem sc_Slots_begin_row : FnScope n_Slots_begin_row ["self"] (defScope s_Slots_begin_row) := ⟨rfl, rfl, rfl, by decide +kernel, rfl, by decide +kernel, by decide +kernel⟩
abbrev s_Slots_move_next : Stmt := inClass (top 23) 3
abbrev n_Slots_move_next : List Str := ["self", "key", "value"]
theorem sc_Slots_move_next : FnScope n_Slots_move_next ["self"] (defScope s_Slots_move_next) := ⟨rfl, rfl, rfl, by decide +kernel, rfl, by decide +kernel, by decide +kernel⟩
abbrev s_Slots_put : Stmt := inClass (top 23) 5
abbrev n_Slots_put : List Str := ["self", "key", "value", "lot"]
theorem sc_Slots_put : FnScope n_Slots_put ["self", "key", "value"] (defScope s_Slots_put) := ⟨rfl, rfl, rfl, by decide +kernel, rfl, by decide +kernel, by decide +kernel⟩
abbrev s_House_put : Stmt := inClass (top 35) 2
abbrev n_House_put : List Str := ["self", "key", "value"]
theorem sc_House_put : FnScope n_House_put ["self", "key", "value"] (defScope s_House_put) := ⟨rfl, rfl, rfl, by decide +kernel, rfl, by decide +kernel, by decide +kernel⟩
abbrev s_needed : Stmt := top 13
abbrev n_needed : List Str := ["makes", "floor", "ahead", "later", "make"]
theorem sc_needed : FnScope n_needed ["makes", "floor"] (defScope s_needed) := ⟨rfl, rfl, rfl, by decide +kernel, rfl, by decide +kernel, by decide +kernel⟩
abbrev s_Makes_thrown : Stmt := inClass (top 14) 5
abbrev n_Makes_thrown : List Str := ["self", "floor", "gone", "key", "kept"]
theorem sc_Makes_thrown : FnScope n_Makes_thrown ["self", "floor"] (defScope s_Makes_thrown) := ⟨rfl, rfl, rfl, by decide +kernel, rfl, by decide +kernel, by decide +kernel⟩
abbrev s_House_sweep : Stmt := inClass (top 35) 13
abbrev n_House_sweep : List Str := ["self"]
theorem sc_House_sweep : FnScope n_House_sweep ["self"] (defScope s_House_sweep) := ⟨rfl, rfl, rfl, by decide +kernel, rfl, by decide +kernel, by decide +kernel⟩
abbrev s__law_cell_at : Stmt := top 37
abbrev n__law_cell_at : List Str := ["_law_script", "_law_k"]
theorem sc__law_cell_at : FnScope n__law_cell_at ["_law_script", "_law_k"] (defScope s__law_cell_at) := ⟨rfl, rfl, rfl, by decide +kernel, rfl, by decide +kernel, by decide +kernel⟩
abbrev s_Leaves_join_at : Stmt := inClass (top 11) 6
abbrev n_Leaves_join_at : List Str := ["self", "at", "joined"]
theorem sc_Leaves_join_at : FnScope n_Leaves_join_at ["self", "at"] (defScope s_Leaves_join_at) := ⟨rfl, rfl, rfl, by decide +kernel, rfl, by decide +kernel, by decide +kernel⟩
abbrev s_Leaves_discard : Stmt := inClass (top 11) 5
abbrev n_Leaves_discard : List Str := ["self", "key", "at", "leaf", "one"]
theorem sc_Leaves_discard : FnScope n_Leaves_discard ["self", "key"] (defScope s_Leaves_discard) := ⟨rfl, rfl, rfl, by decide +kernel, rfl, by decide +kernel, by decide +kernel⟩
abbrev s_Slots_sure : Stmt := inClass (top 23) 6
abbrev n_Slots_sure : List Str := ["self", "key", "lot"]
theorem sc_Slots_sure : FnScope n_Slots_sure ["self", "key"] (defScope s_Slots_sure) := ⟨rfl, rfl, rfl, by decide +kernel, rfl, by decide +kernel, by decide +kernel⟩
abbrev s_Slots_drop : Stmt := inClass (top 23) 7
abbrev n_Slots_drop : List Str := ["self", "key"]
theorem sc_Slots_drop : FnScope n_Slots_drop ["self", "key"] (defScope s_Slots_drop) := ⟨rfl, rfl, rfl, by decide +kernel, rfl, by decide +kernel, by decide +kernel⟩
abbrev s_House_drop : Stmt := inClass (top 35) 3
abbrev n_House_drop : List Str := ["self", "key"]
theorem sc_House_drop : FnScope n_House_drop ["self", "key"] (defScope s_House_drop) := ⟨rfl, rfl, rfl, by decide +kernel, rfl, by decide +kernel, by decide +kernel⟩
abbrev s__law_drawn : Stmt := top 38
abbrev n__law_drawn : List Str := ["_law_cell", "_law_k", "_law_number"]
theorem sc__law_drawn : FnScope n__law_drawn ["_law_cell", "_law_k"] (defScope s__law_drawn) := ⟨rfl, rfl, rfl, by decide +kernel, rfl, by decide +kernel, by decide +kernel⟩
abbrev s__law_key : Stmt := top 39
abbrev n__law_key : List Str := ["_law_cell", "_law_number", "_law_way"]
theorem sc__law_key : FnScope n__law_key ["_law_cell"] (defScope s__law_key) := ⟨rfl, rfl, rfl, by decide +kernel, rfl, by decide +kernel, by decide +kernel⟩
abbrev s__law_deed : Stmt := top 40
abbrev n__law_deed : List Str := ["_law_house", "_law_plain", "_law_cell", "_law_calm", "_law_key_here", "_law_some", "_law_way", "_law_many", "_law_k"]
theorem sc__law_deed : FnScope n__law_deed ["_law_house", "_law_plain", "_law_cell", "_law_calm"] (defScope s__law_deed) := ⟨rfl, rfl, rfl, by decide +kernel, rfl, by decide +kernel, by decide +kernel⟩
abbrev s_Down_holds : Stmt := inClass (top 32) 1
abbrev n_Down_holds : List Str := ["self", "key"]
theorem sc_Down_holds : FnScope n_Down_holds ["self", "key"] (defScope s_Down_holds) := ⟨rfl, rfl, rfl, by decide +kernel, rfl, by decide +kernel, by decide +kernel⟩
abbrev s_NoMoment_init : Stmt := inClass (top 6) 0
abbrev n_NoMoment_init : List Str := ["self", "moment"]
theorem sc_NoMoment_init : FnScope n_NoMoment_init ["self", "moment"] (defScope s_NoMoment_init) := ⟨rfl, rfl, rfl, by decide +kernel, rfl, by decide +kernel, by decide +kernel⟩
abbrev s_TooOld_init : Stmt := inClass (top 5) 0
abbrev n_TooOld_init : List Str := ["self", "moment"]
theorem sc_TooOld_init : FnScope n_TooOld_init ["self", "moment"] (defScope s_TooOld_init) := ⟨rfl, rfl, rfl, by decide +kernel, rfl, by decide +kernel, by decide +kernel⟩
abbrev s_House_ask_moment : Stmt := inClass (top 35) 14
abbrev n_House_ask_moment : List Str := ["self", "moment"]
theorem sc_House_ask_moment : FnScope n_House_ask_moment ["self", "moment"] (defScope s_House_ask_moment) := ⟨rfl, rfl, rfl, by decide +kernel, rfl, by decide +kernel, by decide +kernel⟩
abbrev s_Makes_value_at : Stmt := inClass (top 14) 3
abbrev n_Makes_value_at : List Str := ["self", "key", "moment", "found", "made", "value"]
theorem sc_Makes_value_at : FnScope n_Makes_value_at ["self", "key", "moment"] (defScope s_Makes_value_at) := ⟨rfl, rfl, rfl, by decide +kernel, rfl, by decide +kernel, by decide +kernel⟩
abbrev s_Makes_all_at : Stmt := inClass (top 14) 4
abbrev n_Makes_all_at : List Str := ["self", "moment", "key"]
theorem sc_Makes_all_at : FnScope n_Makes_all_at ["self", "moment"] (defScope s_Makes_all_at) := ⟨rfl, rfl, rfl, by decide +kernel, rfl, by decide +kernel, by decide +kernel⟩
abbrev s_Up_holds : Stmt := inClass (top 31) 1
abbrev n_Up_holds : List Str := ["self", "key"]
theorem sc_Up_holds : FnScope n_Up_holds ["self", "key"] (defScope s_Up_holds) := ⟨rfl, rfl, rfl, by decide +kernel, rfl, by decide +kernel, by decide +kernel⟩
abbrev s_Token_init : Stmt := inClass (top 30) 0
abbrev n_Token_init : List Str := ["self", "at", "end"]
theorem sc_Token_init : FnScope n_Token_init ["self", "at", "end"] (defScope s_Token_init) := ⟨rfl, rfl, rfl, by decide +kernel, rfl, by decide +kernel, by decide +kernel⟩
abbrev s_is_whole : Stmt := top 25
abbrev n_is_whole : List Str := ["thing"]
theorem sc_is_whole : FnScope n_is_whole ["thing"] (defScope s_is_whole) := ⟨rfl, rfl, rfl, by decide +kernel, rfl, by decide +kernel, by decide +kernel⟩
abbrev s_bounded : Stmt := top 27
abbrev n_bounded : List Str := ["number", "most"]
theorem sc_bounded : FnScope n_bounded ["number", "most"] (defScope s_bounded) := ⟨rfl, rfl, rfl, by decide +kernel, rfl, by decide +kernel, by decide +kernel⟩
abbrev s_bound_or_none : Stmt := top 28
abbrev n_bound_or_none : List Str := ["number"]
theorem sc_bound_or_none : FnScope n_bound_or_none ["number"] (defScope s_bound_or_none) := ⟨rfl, rfl, rfl, by decide +kernel, rfl, by decide +kernel, by decide +kernel⟩
abbrev s_in_order : Stmt := top 29
abbrev n_in_order : List Str := ["low", "high"]
theorem sc_in_order : FnScope n_in_order ["low", "high"] (defScope s_in_order) := ⟨rfl, rfl, rfl, by decide +kernel, rfl, by decide +kernel, by decide +kernel⟩
abbrev s_Down_init : Stmt := inClass (top 32) 0
abbrev n_Down_init : List Str := ["self", "at", "end"]
theorem sc_Down_init : FnScope n_Down_init ["self", "at", "end"] (defScope s_Down_init) := ⟨rfl, rfl, rfl, by decide +kernel, rfl, by decide +kernel, by decide +kernel⟩
abbrev s_Up_init : Stmt := inClass (top 31) 0
abbrev n_Up_init : List Str := ["self", "at", "end"]
theorem sc_Up_init : FnScope n_Up_init ["self", "at", "end"] (defScope s_Up_init) := ⟨rfl, rfl, rfl, by decide +kernel, rfl, by decide +kernel, by decide +kernel⟩
abbrev s_behind : Stmt := top 34
abbrev n_behind : List Str := ["token", "key"]
theorem sc_behind : FnScope n_behind ["token", "key"] (defScope s_behind) := ⟨rfl, rfl, rfl, by decide +kernel, rfl, by decide +kernel, by decide +kernel⟩
abbrev s_House_page_at : Stmt := inClass (top 35) 16
abbrev n_House_page_at : List Str := ["self", "moment", "token", "many", "keys", "rows", "key"]
theorem sc_House_page_at : FnScope n_House_page_at ["self", "moment", "token", "many"] (defScope s_House_page_at) := ⟨rfl, rfl, rfl, by decide +kernel, rfl, by decide +kernel, by decide +kernel⟩
abbrev s__law_refused : Stmt := top 46
abbrev n__law_refused : List Str := ["_law_house", "_law_moment", "_law_token_here", "_law_word", "e"]
theorem sc__law_refused : FnScope n__law_refused ["_law_house", "_law_moment", "_law_token_here"] (defScope s__law_refused) := ⟨rfl, rfl, rfl, by decide +kernel, rfl, by decide +kernel, by decide +kernel⟩
abbrev s__law_token : Stmt := top 41
abbrev n__law_token : List Str := ["_law_cell", "_law_plain", "_law_some", "_law_one", "_law_other", "_law_way"]
theorem sc__law_token : FnScope n__law_token ["_law_cell", "_law_plain"] (defScope s__law_token) := ⟨rfl, rfl, rfl, by decide +kernel, rfl, by decide +kernel, by decide +kernel⟩
abbrev s__law_held : Stmt := top 42
abbrev n__law_held : List Str := ["_law_token_here", "_law_key_here"]
theorem sc__law_held : FnScope n__law_held ["_law_token_here", "_law_key_here"] (defScope s__law_held) := ⟨rfl, rfl, rfl, by decide +kernel, rfl, by decide +kernel, by decide +kernel⟩
abbrev s__law_due : Stmt := top 43
abbrev n__law_due : List Str := ["_law_token_here", "_law_plain", "_law_rows", "_law_row"]
theorem sc__law_due : FnScope n__law_due ["_law_token_here", "_law_plain"] (defScope s__law_due) := ⟨rfl, rfl, rfl, by decide +kernel, rfl, by decide +kernel, by decide +kernel⟩
abbrev s__law_next : Stmt := top 44
abbrev n__law_next : List Str := ["_law_token_here", "_law_found", "_law_last"]
theorem sc__law_next : FnScope n__law_next ["_law_token_here", "_law_found", "_law_last"] (defScope s__law_next) := ⟨rfl, rfl, rfl, by decide +kernel, rfl, by decide +kernel, by decide +kernel⟩
abbrev s__law_page : Stmt := top 45
abbrev n__law_page : List Str := ["_law_house", "_law_moment", "_law_token_here", "_law_many"]
theorem sc__law_page : FnScope n__law_page ["_law_house", "_law_moment", "_law_token_here", "_law_many"] (defScope s__law_page) := ⟨rfl, rfl, rfl, by decide +kernel, rfl, by decide +kernel, by decide +kernel⟩
abbrev s__law_walked : Stmt := top 47
abbrev n__law_walked : List Str := ["_law_house", "_law_plain", "_law_moment", "_law_token_here", "_law_cells", "_law_way", "_law_due_here", "_law_beside", "_law_k", "_law_many", "_law_found"]
theorem sc__law_walked : FnScope n__law_walked ["_law_house", "_law_plain", "_law_moment", "_law_token_here", "_law_cells", "_law_way"] (defScope s__law_walked) := ⟨rfl, rfl, rfl, by decide +kernel, rfl, by decide +kernel, by decide +kernel⟩
abbrev s_law : Stmt := top 48
abbrev n_law : List Str := ["_law_script", "_law_house", "_law_plain", "_law_cut", "_law_cell", "_law_way", "_law_moment", "_law_token_here", "_law_later", "_law_one"]
theorem sc_law : FnScope n_law ["_law_script"] (defScope s_law) := ⟨rfl, rfl, rfl, by decide +kernel, rfl, by decide +kernel, by decide +kernel⟩
abbrev rz_House_let_go : Prop := False
abbrev rz_Leaves_add : Prop := False
abbrev rz_Leaves_discard : Prop := False
abbrev rz_Slots_sure : Prop := False
abbrev rz_House_ask_moment : Prop := True
abbrev rz_bounded : Prop := False
abbrev rz_in_order : Prop := False
def OexW (K : PySem.W.Frag) (C : Addr) : Prop := ∃ nm q N bs bm sn sub ab col dd k0 k1 k2 k3 k5, K.lookup C = some (excClassObj nm q C N bs bm true sn sub ab col dd k0 k1 k2 k3 k5 "ValueError.__new__") ∧ PySem.HandSPX.refsVE bm = true
namespace H
def f1 (K : PySem.W.Frag) : Addr := He.fAd K ("Leaves", some "__init__")
def f2 (K : PySem.W.Frag) : Addr := He.fAd K ("Makes", some "__init__")
def f3 (K : PySem.W.Frag) : Addr := He.fAd K ("Bank", some "__init__")
def f4 (K : PySem.W.Frag) : Addr := He.fAd K ("Slots", some "__init__")
def f5 (K : PySem.W.Frag) : Addr := He.fAd K ("House", some "__init__")
def f6 (K : PySem.W.Frag) : Addr := He.fAd K ("House", some "held")
def f7 (K : PySem.W.Frag) : Addr := He.fAd K ("House", some "hold")
def f8 (K : PySem.W.Frag) : Addr := He.fAd K ("House", some "let_go")
def f9 (K : PySem.W.Frag) : Addr := He.fAd K ("Makes", some "add")
def f10 (K : PySem.W.Frag) : Addr := He.fAd K ("House", some "done")
def f11 (K : PySem.W.Frag) : Addr := He.fAd K ("Leaves", some "leaf_at")
def f12 (K : PySem.W.Frag) : Addr := He.fAd K ("Leaves", some "has")
def f13 (K : PySem.W.Frag) : Addr := He.fAd K ("Leaves", some "add")
def f14 (K : PySem.W.Frag) : Addr := He.fAd K ("mark_of", none)
def f15 (K : PySem.W.Frag) : Addr := He.fAd K ("slot_of", none)
def f16 (K : PySem.W.Frag) : Addr := He.fAd K ("Bank", some "lot_of")
def f17 (K : PySem.W.Frag) : Addr := He.fAd K ("Slots", some "home")
def f18 (K : PySem.W.Frag) : Addr := He.fAd K ("Slots", some "has")
def f19 (K : PySem.W.Frag) : Addr := He.fAd K ("Slots", some "begin_row")
def f20 (K : PySem.W.Frag) : Addr := He.fAd K ("Slots", some "move_next")
def f21 (K : PySem.W.Frag) : Addr := He.fAd K ("Slots", some "put")
def f22 (K : PySem.W.Frag) : Addr := He.fAd K ("House", some "put")
def f23 (K : PySem.W.Frag) : Addr := He.fAd K ("needed", none)
def f24 (K : PySem.W.Frag) : Addr := He.fAd K ("Makes", some "thrown")
def f25 (K : PySem.W.Frag) : Addr := He.fAd K ("House", some "sweep")
def f26 (K : PySem.W.Frag) : Addr := He.fAd K ("_law_cell_at", none)
def f27 (K : PySem.W.Frag) : Addr := He.fAd K ("Leaves", some "join_at")
def f28 (K : PySem.W.Frag) : Addr := He.fAd K ("Leaves", some "discard")
def f29 (K : PySem.W.Frag) : Addr := He.fAd K ("Slots", some "sure")
def f30 (K : PySem.W.Frag) : Addr := He.fAd K ("Slots", some "drop")
def f31 (K : PySem.W.Frag) : Addr := He.fAd K ("House", some "drop")
def f32 (K : PySem.W.Frag) : Addr := He.fAd K ("_law_drawn", none)
def f33 (K : PySem.W.Frag) : Addr := He.fAd K ("_law_key", none)
def f34 (K : PySem.W.Frag) : Addr := He.fAd K ("_law_deed", none)
def f35 (K : PySem.W.Frag) : Addr := He.fAd K ("Down", some "holds")
def f36 (K : PySem.W.Frag) : Addr := He.fAd K ("NoMoment", some "__init__")
def f37 (K : PySem.W.Frag) : Addr := He.fAd K ("TooOld", some "__init__")
def f38 (K : PySem.W.Frag) : Addr := He.fAd K ("House", some "ask_moment")
def f39 (K : PySem.W.Frag) : Addr := He.fAd K ("Makes", some "value_at")
def f40 (K : PySem.W.Frag) : Addr := He.fAd K ("Makes", some "all_at")
def f41 (K : PySem.W.Frag) : Addr := He.fAd K ("Up", some "holds")
def f42 (K : PySem.W.Frag) : Addr := He.fAd K ("Token", some "__init__")
def f43 (K : PySem.W.Frag) : Addr := He.fAd K ("is_whole", none)
def f44 (K : PySem.W.Frag) : Addr := He.fAd K ("bounded", none)
def f45 (K : PySem.W.Frag) : Addr := He.fAd K ("bound_or_none", none)
def f46 (K : PySem.W.Frag) : Addr := He.fAd K ("in_order", none)
def f47 (K : PySem.W.Frag) : Addr := He.fAd K ("Down", some "__init__")
def f48 (K : PySem.W.Frag) : Addr := He.fAd K ("Up", some "__init__")
def f49 (K : PySem.W.Frag) : Addr := He.fAd K ("behind", none)
def f50 (K : PySem.W.Frag) : Addr := He.fAd K ("House", some "page_at")
def f51 (K : PySem.W.Frag) : Addr := He.fAd K ("_law_refused", none)
def f52 (K : PySem.W.Frag) : Addr := He.fAd K ("_law_token", none)
def f53 (K : PySem.W.Frag) : Addr := He.fAd K ("_law_held", none)
def f54 (K : PySem.W.Frag) : Addr := He.fAd K ("_law_due", none)
def f55 (K : PySem.W.Frag) : Addr := He.fAd K ("_law_next", none)
def f56 (K : PySem.W.Frag) : Addr := He.fAd K ("_law_page", none)
def f57 (K : PySem.W.Frag) : Addr := He.fAd K ("_law_walked", none)
def f58 (K : PySem.W.Frag) : Addr := He.fAd K ("law", none)
def C_WalkError (K : PySem.W.Frag) : Addr := He.ga K "WalkError"
def C_NoKey (K : PySem.W.Frag) : Addr := He.ga K "NoKey"
def C_Twice (K : PySem.W.Frag) : Addr := He.ga K "Twice"
def C_TooOld (K : PySem.W.Frag) : Addr := He.ga K "TooOld"
def C_NoMoment (K : PySem.W.Frag) : Addr := He.ga K "NoMoment"
def C_NoToken (K : PySem.W.Frag) : Addr := He.ga K "NoToken"
def C_Leaves (K : PySem.W.Frag) : Addr := He.ga K "Leaves"
def C_Makes (K : PySem.W.Frag) : Addr := He.ga K "Makes"
def C_Bank (K : PySem.W.Frag) : Addr := He.ga K "Bank"
def C_Slots (K : PySem.W.Frag) : Addr := He.ga K "Slots"
def C_Token (K : PySem.W.Frag) : Addr := He.ga K "Token"
def C_Up (K : PySem.W.Frag) : Addr := He.ga K "Up"
def C_Down (K : PySem.W.Frag) : Addr := He.ga K "Down"
def C_House (K : PySem.W.Frag) : Addr := He.ga K "House"
def e1 : He.DefD := ⟨("Leaves", some "__init__"), "__init__", "Leaves.__init__", defArgs s_Leaves_init, defBody s_Leaves_init, defScope s_Leaves_init, [], []⟩
def e2 : He.DefD := ⟨("Makes", some "__init__"), "__init__", "Makes.__init__", defArgs s_Makes_init, defBody s_Makes_init, defScope s_Makes_init, [], []⟩
def e3 : He.DefD := ⟨("Bank", some "__init__"), "__init__", "Bank.__init__", defArgs s_Bank_init, defBody s_Bank_init, defScope s_Bank_init, [], []⟩
def e4 : He.DefD := ⟨("Slots", some "__init__"), "__init__", "Slots.__init__", defArgs s_Slots_init, defBody s_Slots_init, defScope s_Slots_init, [], []⟩
def e5 : He.DefD := ⟨("House", some "__init__"), "__init__", "House.__init__", defArgs s_House_init, defBody s_House_init, defScope s_House_init, [], []⟩
def e6 : He.DefD := ⟨("House", some "held"), "held", "House.held", defArgs s_House_held, defBody s_House_held, defScope s_House_held, [], []⟩
def e7 : He.DefD := ⟨("House", some "hold"), "hold", "House.hold", defArgs s_House_hold, defBody s_House_hold, defScope s_House_hold, [], []⟩
def e8 : He.DefD := ⟨("House", some "let_go"), "let_go", "House.let_go", defArgs s_House_let_go, defBody s_House_let_go, defScope s_House_let_go, [], []⟩
def e9 : He.DefD := ⟨("Makes", some "add"), "add", "Makes.add", defArgs s_Makes_add, defBody s_Makes_add, defScope s_Makes_add, [], []⟩
def e10 : He.DefD := ⟨("House", some "done"), "done", "House.done", defArgs s_House_done, defBody s_House_done, defScope s_House_done, [], []⟩
def e11 : He.DefD := ⟨("Leaves", some "leaf_at"), "leaf_at", "Leaves.leaf_at", defArgs s_Leaves_leaf_at, defBody s_Leaves_leaf_at, defScope s_Leaves_leaf_at, [], []⟩
def e12 : He.DefD := ⟨("Leaves", some "has"), "has", "Leaves.has", defArgs s_Leaves_has, defBody s_Leaves_has, defScope s_Leaves_has, [], []⟩
def e13 : He.DefD := ⟨("Leaves", some "add"), "add", "Leaves.add", defArgs s_Leaves_add, defBody s_Leaves_add, defScope s_Leaves_add, [], []⟩
def e14 : He.DefD := ⟨("mark_of", none), "mark_of", "mark_of", defArgs s_mark_of, defBody s_mark_of, defScope s_mark_of, [], []⟩
def e15 : He.DefD := ⟨("slot_of", none), "slot_of", "slot_of", defArgs s_slot_of, defBody s_slot_of, defScope s_slot_of, [], []⟩
def e16 : He.DefD := ⟨("Bank", some "lot_of"), "lot_of", "Bank.lot_of", defArgs s_Bank_lot_of, defBody s_Bank_lot_of, defScope s_Bank_lot_of, [], []⟩
def e17 : He.DefD := ⟨("Slots", some "home"), "home", "Slots.home", defArgs s_Slots_home, defBody s_Slots_home, defScope s_Slots_home, [], []⟩
def e18 : He.DefD := ⟨("Slots", some "has"), "has", "Slots.has", defArgs s_Slots_has, defBody s_Slots_has, defScope s_Slots_has, [], []⟩
def e19 : He.DefD := ⟨("Slots", some "begin_row"), "begin_row", "Slots.begin_row", defArgs s_Slots_begin_row, defBody s_Slots_begin_row, defScope s_Slots_begin_row, [], []⟩
def e20 : He.DefD := ⟨("Slots", some "move_next"), "move_next", "Slots.move_next", defArgs s_Slots_move_next, defBody s_Slots_move_next, defScope s_Slots_move_next, [], []⟩
def e21 : He.DefD := ⟨("Slots", some "put"), "put", "Slots.put", defArgs s_Slots_put, defBody s_Slots_put, defScope s_Slots_put, [], []⟩
def e22 : He.DefD := ⟨("House", some "put"), "put", "House.put", defArgs s_House_put, defBody s_House_put, defScope s_House_put, [], []⟩
def e23 : He.DefD := ⟨("needed", none), "needed", "needed", defArgs s_needed, defBody s_needed, defScope s_needed, [], []⟩
def e24 : He.DefD := ⟨("Makes", some "thrown"), "thrown", "Makes.thrown", defArgs s_Makes_thrown, defBody s_Makes_thrown, defScope s_Makes_thrown, [], []⟩
def e25 : He.DefD := ⟨("House", some "sweep"), "sweep", "House.sweep", defArgs s_House_sweep, defBody s_House_sweep, defScope s_House_sweep, [], []⟩
def e26 : He.DefD := ⟨("_law_cell_at", none), "_law_cell_at", "_law_cell_at", defArgs s__law_cell_at, defBody s__law_cell_at, defScope s__law_cell_at, [], []⟩
def e27 : He.DefD := ⟨("Leaves", some "join_at"), "join_at", "Leaves.join_at", defArgs s_Leaves_join_at, defBody s_Leaves_join_at, defScope s_Leaves_join_at, [], []⟩
def e28 : He.DefD := ⟨("Leaves", some "discard"), "discard", "Leaves.discard", defArgs s_Leaves_discard, defBody s_Leaves_discard, defScope s_Leaves_discard, [], []⟩
def e29 : He.DefD := ⟨("Slots", some "sure"), "sure", "Slots.sure", defArgs s_Slots_sure, defBody s_Slots_sure, defScope s_Slots_sure, [], []⟩
def e30 : He.DefD := ⟨("Slots", some "drop"), "drop", "Slots.drop", defArgs s_Slots_drop, defBody s_Slots_drop, defScope s_Slots_drop, [], []⟩
def e31 : He.DefD := ⟨("House", some "drop"), "drop", "House.drop", defArgs s_House_drop, defBody s_House_drop, defScope s_House_drop, [], []⟩
def e32 : He.DefD := ⟨("_law_drawn", none), "_law_drawn", "_law_drawn", defArgs s__law_drawn, defBody s__law_drawn, defScope s__law_drawn, [], []⟩
def e33 : He.DefD := ⟨("_law_key", none), "_law_key", "_law_key", defArgs s__law_key, defBody s__law_key, defScope s__law_key, [], []⟩
def e34 : He.DefD := ⟨("_law_deed", none), "_law_deed", "_law_deed", defArgs s__law_deed, defBody s__law_deed, defScope s__law_deed, [], []⟩
def e35 : He.DefD := ⟨("Down", some "holds"), "holds", "Down.holds", defArgs s_Down_holds, defBody s_Down_holds, defScope s_Down_holds, [], []⟩
def e36 : He.DefD := ⟨("NoMoment", some "__init__"), "__init__", "NoMoment.__init__", defArgs s_NoMoment_init, defBody s_NoMoment_init, defScope s_NoMoment_init, [], []⟩
def e37 : He.DefD := ⟨("TooOld", some "__init__"), "__init__", "TooOld.__init__", defArgs s_TooOld_init, defBody s_TooOld_init, defScope s_TooOld_init, [], []⟩
def e38 : He.DefD := ⟨("House", some "ask_moment"), "ask_moment", "House.ask_moment", defArgs s_House_ask_moment, defBody s_House_ask_moment, defScope s_House_ask_moment, [], []⟩
def e39 : He.DefD := ⟨("Makes", some "value_at"), "value_at", "Makes.value_at", defArgs s_Makes_value_at, defBody s_Makes_value_at, defScope s_Makes_value_at, [], []⟩
def e40 : He.DefD := ⟨("Makes", some "all_at"), "all_at", "Makes.all_at", defArgs s_Makes_all_at, defBody s_Makes_all_at, defScope s_Makes_all_at, [], []⟩
def e41 : He.DefD := ⟨("Up", some "holds"), "holds", "Up.holds", defArgs s_Up_holds, defBody s_Up_holds, defScope s_Up_holds, [], []⟩
def e42 : He.DefD := ⟨("Token", some "__init__"), "__init__", "Token.__init__", defArgs s_Token_init, defBody s_Token_init, defScope s_Token_init, [], []⟩
def e43 : He.DefD := ⟨("is_whole", none), "is_whole", "is_whole", defArgs s_is_whole, defBody s_is_whole, defScope s_is_whole, [], []⟩
def e44 : He.DefD := ⟨("bounded", none), "bounded", "bounded", defArgs s_bounded, defBody s_bounded, defScope s_bounded, [], []⟩
def e45 : He.DefD := ⟨("bound_or_none", none), "bound_or_none", "bound_or_none", defArgs s_bound_or_none, defBody s_bound_or_none, defScope s_bound_or_none, [], []⟩
def e46 : He.DefD := ⟨("in_order", none), "in_order", "in_order", defArgs s_in_order, defBody s_in_order, defScope s_in_order, [], []⟩
def e47 : He.DefD := ⟨("Down", some "__init__"), "__init__", "Down.__init__", defArgs s_Down_init, defBody s_Down_init, defScope s_Down_init, [.non, .int 0], []⟩
def e48 : He.DefD := ⟨("Up", some "__init__"), "__init__", "Up.__init__", defArgs s_Up_init, defBody s_Up_init, defScope s_Up_init, [.int 0, .non], []⟩
def e49 : He.DefD := ⟨("behind", none), "behind", "behind", defArgs s_behind, defBody s_behind, defScope s_behind, [], []⟩
def e50 : He.DefD := ⟨("House", some "page_at"), "page_at", "House.page_at", defArgs s_House_page_at, defBody s_House_page_at, defScope s_House_page_at, [.int 10], []⟩
def e51 : He.DefD := ⟨("_law_refused", none), "_law_refused", "_law_refused", defArgs s__law_refused, defBody s__law_refused, defScope s__law_refused, [], []⟩
def e52 : He.DefD := ⟨("_law_token", none), "_law_token", "_law_token", defArgs s__law_token, defBody s__law_token, defScope s__law_token, [], []⟩
def e53 : He.DefD := ⟨("_law_held", none), "_law_held", "_law_held", defArgs s__law_held, defBody s__law_held, defScope s__law_held, [], []⟩
def e54 : He.DefD := ⟨("_law_due", none), "_law_due", "_law_due", defArgs s__law_due, defBody s__law_due, defScope s__law_due, [], []⟩
def e55 : He.DefD := ⟨("_law_next", none), "_law_next", "_law_next", defArgs s__law_next, defBody s__law_next, defScope s__law_next, [], []⟩
def e56 : He.DefD := ⟨("_law_page", none), "_law_page", "_law_page", defArgs s__law_page, defBody s__law_page, defScope s__law_page, [], []⟩
def e57 : He.DefD := ⟨("_law_walked", none), "_law_walked", "_law_walked", defArgs s__law_walked, defBody s__law_walked, defScope s__law_walked, [], []⟩
def e58 : He.DefD := ⟨("law", none), "law", "law", defArgs s_law, defBody s_law, defScope s_law, [], []⟩
def fn : List He.DefD := [e1, e2, e3, e4, e5, e6, e7, e8, e9, e10, e11, e12, e13, e14, e15, e16, e17, e18, e19, e20, e21, e22, e23, e24, e25, e26, e27, e28, e29, e30] ++ [e31, e32, e33, e34, e35, e36, e37, e38, e39, e40, e41, e42, e43, e44, e45, e46, e47, e48, e49, e50, e51, e52, e53, e54, e55, e56, e57, e58]
def fa : List He.Fa := [.int "MOST_KEYS" 8, .int "LEAST_OF_TWO" 5, .int "PLACES" 65536, .int "LEAST_SIZE" 4, .int "MOST_SIZE" 256]
def oexB (K : PySem.W.Frag) (C : Addr) : Bool := match K.lookup C with
  | some ⟨.type t, _, .cls cd, ⟨sl⟩⟩ => (match cd.mro, sl with
    | .ref C' :: bm, [_, _, _, _, some (.builtin n), _] => decide (t = "type") && (decide (C' = C) && (decide (n = "ValueError.__new__") && (!cd.hasDel && (cd.hasDict && PySem.HandSPX.refsVE bm))))
    | _, _ => false)
  | _ => false
theorem oexB_ok {K : PySem.W.Frag} {C : Addr} (h : oexB K C = true) : OexW K C := by
  unfold oexB at h
  split at h
  · rename_i t od cd sl e
    split at h
    · rename_i C' bm k0 k1 k2 k3 n k5 em
      simp only [Bool.and_eq_true, decide_eq_true_eq, Bool.not_eq_true'] at h
      obtain ⟨h1, h2, h3, h4, h5, h6⟩ := h
      subst h1 h2 h3
      obtain ⟨c1, c2, c3, c4, c5, c6, c7, c8, c9, c10, c11⟩ := cd
      dsimp only at em h4 h5
      subst em h4 h5
      exact ⟨_, _, _, _, _, _, _, _, _, _, _, _, _, _, _, e, h6⟩
    · cases h
  · cases h
def cfB (x : Option PySem.W.CFound) (v : Value) : Bool := match x with
  | some (.val u) => decide (u = v)
  | _ => false
theorem cfB_ok {x : Option PySem.W.CFound} {v : Value} (h : cfB x v = true) : x = some (.val v) := by
  cases x with
  | none => cases h
  | some c =>
    cases c with
    | val u =>
      have e : u = v := of_decide_eq_true h
      rw [e]
    | _ => cases h
def chk0 (K : PySem.W.Frag) : List Bool := [
    He.eqO (PySem.W.findIn K (.ref (H.C_Leaves K)) "__init__") (some (some (.ref (H.f1 K)))),
    PySem.W.isFn K (.ref (H.f1 K)),
    PySem.W.keepIn K (.ref (H.f1 K)),
    He.eqO (PySem.W.findIn K (.ref (H.C_Makes K)) "__init__") (some (some (.ref (H.f2 K)))),
    PySem.W.isFn K (.ref (H.f2 K)),
    PySem.W.keepIn K (.ref (H.f2 K)),
    He.eqO (PySem.W.findIn K (.ref (H.C_Bank K)) "__init__") (some (some (.ref (H.f3 K)))),
    PySem.W.isFn K (.ref (H.f3 K)),
    PySem.W.keepIn K (.ref (H.f3 K)),
    He.eqO (PySem.W.findIn K (.ref (H.C_Slots K)) "__init__") (some (some (.ref (H.f4 K)))),
    PySem.W.isFn K (.ref (H.f4 K)),
    PySem.W.keepIn K (.ref (H.f4 K)),
    He.eqO (PySem.W.findIn K (.ref (H.C_House K)) "__init__") (some (some (.ref (H.f5 K)))),
    PySem.W.isFn K (.ref (H.f5 K)),
    PySem.W.keepIn K (.ref (H.f5 K)),
    He.eqO (PySem.W.findIn K (.ref (H.C_House K)) "held") (some (some (.ref (H.f6 K)))),
    PySem.W.isFn K (.ref (H.f6 K)),
    PySem.W.keepIn K (.ref (H.f6 K)),
    He.eqO (PySem.W.findIn K (.ref (H.C_House K)) "hold") (some (some (.ref (H.f7 K)))),
    PySem.W.isFn K (.ref (H.f7 K)),
    PySem.W.keepIn K (.ref (H.f7 K)),
    He.eqO (PySem.W.findIn K (.ref (H.C_House K)) "let_go") (some (some (.ref (H.f8 K)))),
    PySem.W.isFn K (.ref (H.f8 K)),
    PySem.W.keepIn K (.ref (H.f8 K)),
    He.eqO (PySem.W.findIn K (.ref (H.C_Makes K)) "add") (some (some (.ref (H.f9 K)))),
    PySem.W.isFn K (.ref (H.f9 K)),
    PySem.W.keepIn K (.ref (H.f9 K)),
    He.eqO (PySem.W.findIn K (.ref (H.C_House K)) "done") (some (some (.ref (H.f10 K)))),
    PySem.W.isFn K (.ref (H.f10 K)),
    PySem.W.keepIn K (.ref (H.f10 K))]
def chk1 (K : PySem.W.Frag) : List Bool := [
    He.eqO (PySem.W.findIn K (.ref (H.C_Leaves K)) "leaf_at") (some (some (.ref (H.f11 K)))),
    PySem.W.isFn K (.ref (H.f11 K)),
    PySem.W.keepIn K (.ref (H.f11 K)),
    He.eqO (PySem.W.findIn K (.ref (H.C_Leaves K)) "has") (some (some (.ref (H.f12 K)))),
    PySem.W.isFn K (.ref (H.f12 K)),
    PySem.W.keepIn K (.ref (H.f12 K)),
    He.eqO (PySem.W.findIn K (.ref (H.C_Leaves K)) "add") (some (some (.ref (H.f13 K)))),
    PySem.W.isFn K (.ref (H.f13 K)),
    PySem.W.keepIn K (.ref (H.f13 K)),
    He.eqO (PySem.W.nsIn K mainGlobals "mark_of") (some (some (.ref (H.f14 K)))),
    PySem.W.keepIn K (.ref (H.f14 K)),
    He.eqO (PySem.W.nsIn K mainGlobals "slot_of") (some (some (.ref (H.f15 K)))),
    PySem.W.keepIn K (.ref (H.f15 K)),
    He.eqO (PySem.W.findIn K (.ref (H.C_Bank K)) "lot_of") (some (some (.ref (H.f16 K)))),
    PySem.W.isFn K (.ref (H.f16 K)),
    PySem.W.keepIn K (.ref (H.f16 K)),
    He.eqO (PySem.W.findIn K (.ref (H.C_Slots K)) "home") (some (some (.ref (H.f17 K)))),
    PySem.W.isFn K (.ref (H.f17 K)),
    PySem.W.keepIn K (.ref (H.f17 K)),
    He.eqO (PySem.W.findIn K (.ref (H.C_Slots K)) "has") (some (some (.ref (H.f18 K)))),
    PySem.W.isFn K (.ref (H.f18 K)),
    PySem.W.keepIn K (.ref (H.f18 K)),
    He.eqO (PySem.W.findIn K (.ref (H.C_Slots K)) "begin_row") (some (some (.ref (H.f19 K)))),
    PySem.W.isFn K (.ref (H.f19 K)),
    PySem.W.keepIn K (.ref (H.f19 K)),
    He.eqO (PySem.W.findIn K (.ref (H.C_Slots K)) "move_next") (some (some (.ref (H.f20 K)))),
    PySem.W.isFn K (.ref (H.f20 K)),
    PySem.W.keepIn K (.ref (H.f20 K)),
    He.eqO (PySem.W.findIn K (.ref (H.C_Slots K)) "put") (some (some (.ref (H.f21 K)))),
    PySem.W.isFn K (.ref (H.f21 K))]
def chk2 (K : PySem.W.Frag) : List Bool := [
    PySem.W.keepIn K (.ref (H.f21 K)),
    He.eqO (PySem.W.findIn K (.ref (H.C_House K)) "put") (some (some (.ref (H.f22 K)))),
    PySem.W.isFn K (.ref (H.f22 K)),
    PySem.W.keepIn K (.ref (H.f22 K)),
    He.eqO (PySem.W.nsIn K mainGlobals "needed") (some (some (.ref (H.f23 K)))),
    PySem.W.keepIn K (.ref (H.f23 K)),
    He.eqO (PySem.W.findIn K (.ref (H.C_Makes K)) "thrown") (some (some (.ref (H.f24 K)))),
    PySem.W.isFn K (.ref (H.f24 K)),
    PySem.W.keepIn K (.ref (H.f24 K)),
    He.eqO (PySem.W.findIn K (.ref (H.C_House K)) "sweep") (some (some (.ref (H.f25 K)))),
    PySem.W.isFn K (.ref (H.f25 K)),
    PySem.W.keepIn K (.ref (H.f25 K)),
    He.eqO (PySem.W.nsIn K mainGlobals "_law_cell_at") (some (some (.ref (H.f26 K)))),
    PySem.W.keepIn K (.ref (H.f26 K)),
    He.eqO (PySem.W.findIn K (.ref (H.C_Leaves K)) "join_at") (some (some (.ref (H.f27 K)))),
    PySem.W.isFn K (.ref (H.f27 K)),
    PySem.W.keepIn K (.ref (H.f27 K)),
    He.eqO (PySem.W.findIn K (.ref (H.C_Leaves K)) "discard") (some (some (.ref (H.f28 K)))),
    PySem.W.isFn K (.ref (H.f28 K)),
    PySem.W.keepIn K (.ref (H.f28 K)),
    He.eqO (PySem.W.findIn K (.ref (H.C_Slots K)) "sure") (some (some (.ref (H.f29 K)))),
    PySem.W.isFn K (.ref (H.f29 K)),
    PySem.W.keepIn K (.ref (H.f29 K)),
    He.eqO (PySem.W.findIn K (.ref (H.C_Slots K)) "drop") (some (some (.ref (H.f30 K)))),
    PySem.W.isFn K (.ref (H.f30 K)),
    PySem.W.keepIn K (.ref (H.f30 K)),
    He.eqO (PySem.W.findIn K (.ref (H.C_House K)) "drop") (some (some (.ref (H.f31 K)))),
    PySem.W.isFn K (.ref (H.f31 K)),
    PySem.W.keepIn K (.ref (H.f31 K)),
    He.eqO (PySem.W.nsIn K mainGlobals "_law_drawn") (some (some (.ref (H.f32 K))))]
def chk3 (K : PySem.W.Frag) : List Bool := [
    PySem.W.keepIn K (.ref (H.f32 K)),
    He.eqO (PySem.W.nsIn K mainGlobals "_law_key") (some (some (.ref (H.f33 K)))),
    PySem.W.keepIn K (.ref (H.f33 K)),
    He.eqO (PySem.W.nsIn K mainGlobals "_law_deed") (some (some (.ref (H.f34 K)))),
    PySem.W.keepIn K (.ref (H.f34 K)),
    He.eqO (PySem.W.findIn K (.ref (H.C_Down K)) "holds") (some (some (.ref (H.f35 K)))),
    PySem.W.isFn K (.ref (H.f35 K)),
    PySem.W.keepIn K (.ref (H.f35 K)),
    He.eqO (PySem.W.findIn K (.ref (H.C_NoMoment K)) "__init__") (some (some (.ref (H.f36 K)))),
    PySem.W.isFn K (.ref (H.f36 K)),
    PySem.W.keepIn K (.ref (H.f36 K)),
    He.eqO (PySem.W.findIn K (.ref (H.C_TooOld K)) "__init__") (some (some (.ref (H.f37 K)))),
    PySem.W.isFn K (.ref (H.f37 K)),
    PySem.W.keepIn K (.ref (H.f37 K)),
    He.eqO (PySem.W.findIn K (.ref (H.C_House K)) "ask_moment") (some (some (.ref (H.f38 K)))),
    PySem.W.isFn K (.ref (H.f38 K)),
    PySem.W.keepIn K (.ref (H.f38 K)),
    He.eqO (PySem.W.findIn K (.ref (H.C_Makes K)) "value_at") (some (some (.ref (H.f39 K)))),
    PySem.W.isFn K (.ref (H.f39 K)),
    PySem.W.keepIn K (.ref (H.f39 K)),
    He.eqO (PySem.W.findIn K (.ref (H.C_Makes K)) "all_at") (some (some (.ref (H.f40 K)))),
    PySem.W.isFn K (.ref (H.f40 K)),
    PySem.W.keepIn K (.ref (H.f40 K)),
    He.eqO (PySem.W.findIn K (.ref (H.C_Up K)) "holds") (some (some (.ref (H.f41 K)))),
    PySem.W.isFn K (.ref (H.f41 K)),
    PySem.W.keepIn K (.ref (H.f41 K)),
    He.eqO (PySem.W.findIn K (.ref (H.C_Token K)) "__init__") (some (some (.ref (H.f42 K)))),
    PySem.W.isFn K (.ref (H.f42 K)),
    PySem.W.keepIn K (.ref (H.f42 K)),
    He.eqO (PySem.W.nsIn K mainGlobals "is_whole") (some (some (.ref (H.f43 K))))]
def chk4 (K : PySem.W.Frag) : List Bool := [
    PySem.W.keepIn K (.ref (H.f43 K)),
    He.eqO (PySem.W.nsIn K mainGlobals "bounded") (some (some (.ref (H.f44 K)))),
    PySem.W.keepIn K (.ref (H.f44 K)),
    He.eqO (PySem.W.nsIn K mainGlobals "bound_or_none") (some (some (.ref (H.f45 K)))),
    PySem.W.keepIn K (.ref (H.f45 K)),
    He.eqO (PySem.W.nsIn K mainGlobals "in_order") (some (some (.ref (H.f46 K)))),
    PySem.W.keepIn K (.ref (H.f46 K)),
    He.eqO (PySem.W.findIn K (.ref (H.C_Down K)) "__init__") (some (some (.ref (H.f47 K)))),
    PySem.W.isFn K (.ref (H.f47 K)),
    PySem.W.keepIn K (.ref (H.f47 K)),
    He.eqO (PySem.W.findIn K (.ref (H.C_Up K)) "__init__") (some (some (.ref (H.f48 K)))),
    PySem.W.isFn K (.ref (H.f48 K)),
    PySem.W.keepIn K (.ref (H.f48 K)),
    He.eqO (PySem.W.nsIn K mainGlobals "behind") (some (some (.ref (H.f49 K)))),
    PySem.W.keepIn K (.ref (H.f49 K)),
    He.eqO (PySem.W.findIn K (.ref (H.C_House K)) "page_at") (some (some (.ref (H.f50 K)))),
    PySem.W.isFn K (.ref (H.f50 K)),
    PySem.W.keepIn K (.ref (H.f50 K)),
    He.eqO (PySem.W.nsIn K mainGlobals "_law_refused") (some (some (.ref (H.f51 K)))),
    PySem.W.keepIn K (.ref (H.f51 K)),
    He.eqO (PySem.W.nsIn K mainGlobals "_law_token") (some (some (.ref (H.f52 K)))),
    PySem.W.keepIn K (.ref (H.f52 K)),
    He.eqO (PySem.W.nsIn K mainGlobals "_law_held") (some (some (.ref (H.f53 K)))),
    PySem.W.keepIn K (.ref (H.f53 K)),
    He.eqO (PySem.W.nsIn K mainGlobals "_law_due") (some (some (.ref (H.f54 K)))),
    PySem.W.keepIn K (.ref (H.f54 K)),
    He.eqO (PySem.W.nsIn K mainGlobals "_law_next") (some (some (.ref (H.f55 K)))),
    PySem.W.keepIn K (.ref (H.f55 K)),
    He.eqO (PySem.W.nsIn K mainGlobals "_law_page") (some (some (.ref (H.f56 K)))),
    PySem.W.keepIn K (.ref (H.f56 K))]
def chk5 (K : PySem.W.Frag) : List Bool := [
    He.eqO (PySem.W.nsIn K mainGlobals "_law_walked") (some (some (.ref (H.f57 K)))),
    PySem.W.keepIn K (.ref (H.f57 K)),
    He.eqO (PySem.W.nsIn K mainGlobals "law") (some (some (.ref (H.f58 K)))),
    PySem.W.keepIn K (.ref (H.f58 K)),
    He.eqO (PySem.W.nsIn K mainGlobals "WalkError") (some (some (.ref (H.C_WalkError K)))),
    He.eqO (PySem.W.nsIn K mainGlobals "NoKey") (some (some (.ref (H.C_NoKey K)))),
    He.eqO (PySem.W.nsIn K mainGlobals "Twice") (some (some (.ref (H.C_Twice K)))),
    He.eqO (PySem.W.nsIn K mainGlobals "TooOld") (some (some (.ref (H.C_TooOld K)))),
    H.oexB K (H.C_TooOld K),
    He.eqO (PySem.W.findIn K (.ref (H.C_TooOld K)) "__setattr__") (some (some (.builtin "object.__setattr__"))),
    decide (PySem.W.subIn K (.ref (H.C_TooOld K)) (.type "BaseException") = some true),
    decide (PySem.W.typeIn K (.ref (H.C_TooOld K)) = some (.type "type")),
    PySem.W.keepIn K (.ref (H.C_TooOld K)),
    He.eqO (PySem.W.findIn K (.ref (H.C_TooOld K)) "__getattribute__") (some (some (.builtin "BaseException.__getattribute__"))),
    He.eqO (PySem.W.findIn K (.ref (H.C_TooOld K)) "__getattr__") (some none),
    PySem.W.hasDictIn K (H.C_TooOld K),
    He.eqO (PySem.W.findIn K (.ref (H.C_TooOld K)) "__class__") (some (some (.builtin "object.__class__"))),
    He.eqO (PySem.W.specialIn K (.builtin "object.__class__") "__get__") (some (some (.builtin "getset_descriptor.__get__"))),
    decide (PySem.W.takesIn K (.builtin "object.__class__") = some true),
    decide (PySem.W.mroIn K (H.C_TooOld K) (.type "object") = some true),
    decide (PySem.W.subIn K (.ref (H.C_TooOld K)) (.ref (H.C_TooOld K)) = some true),
    decide (PySem.W.subIn K (.ref (H.C_TooOld K)) (.type "ValueError") = some true),
    decide (PySem.W.typeIn K (.ref (H.f37 K)) = some (.type "function")),
    He.eqO (PySem.W.findIn K (.ref (H.C_TooOld K)) "moment") (some none),
    decide (PySem.W.subIn K (.ref (H.C_TooOld K)) (.ref (H.C_TooOld K)) = some true),
    decide (PySem.W.subIn K (.ref (H.C_TooOld K)) (.ref (H.C_NoMoment K)) = some false),
    He.eqO (PySem.W.nsIn K mainGlobals "NoMoment") (some (some (.ref (H.C_NoMoment K)))),
    H.oexB K (H.C_NoMoment K),
    He.eqO (PySem.W.findIn K (.ref (H.C_NoMoment K)) "__setattr__") (some (some (.builtin "object.__setattr__"))),
    decide (PySem.W.subIn K (.ref (H.C_NoMoment K)) (.type "BaseException") = some true)]
def chk6 (K : PySem.W.Frag) : List Bool := [
    decide (PySem.W.typeIn K (.ref (H.C_NoMoment K)) = some (.type "type")),
    PySem.W.keepIn K (.ref (H.C_NoMoment K)),
    He.eqO (PySem.W.findIn K (.ref (H.C_NoMoment K)) "__getattribute__") (some (some (.builtin "BaseException.__getattribute__"))),
    He.eqO (PySem.W.findIn K (.ref (H.C_NoMoment K)) "__getattr__") (some none),
    PySem.W.hasDictIn K (H.C_NoMoment K),
    He.eqO (PySem.W.findIn K (.ref (H.C_NoMoment K)) "__class__") (some (some (.builtin "object.__class__"))),
    He.eqO (PySem.W.specialIn K (.builtin "object.__class__") "__get__") (some (some (.builtin "getset_descriptor.__get__"))),
    decide (PySem.W.takesIn K (.builtin "object.__class__") = some true),
    decide (PySem.W.mroIn K (H.C_NoMoment K) (.type "object") = some true),
    decide (PySem.W.subIn K (.ref (H.C_NoMoment K)) (.ref (H.C_NoMoment K)) = some true),
    decide (PySem.W.subIn K (.ref (H.C_NoMoment K)) (.type "ValueError") = some true),
    decide (PySem.W.typeIn K (.ref (H.f36 K)) = some (.type "function")),
    He.eqO (PySem.W.findIn K (.ref (H.C_NoMoment K)) "moment") (some none),
    decide (PySem.W.subIn K (.ref (H.C_NoMoment K)) (.ref (H.C_TooOld K)) = some false),
    decide (PySem.W.subIn K (.ref (H.C_NoMoment K)) (.ref (H.C_NoMoment K)) = some true),
    He.eqO (PySem.W.nsIn K mainGlobals "NoToken") (some (some (.ref (H.C_NoToken K)))),
    He.eqO (PySem.W.nsIn K mainGlobals "Leaves") (some (some (.ref (H.C_Leaves K)))),
    PySem.W.plainGet K (H.C_Leaves K) Str.empty,
    PySem.W.hasDictIn K (H.C_Leaves K),
    PySem.W.plainOver K (H.C_Leaves K),
    He.eqO (PySem.W.findIn K (.ref (H.C_Leaves K)) "__setattr__") (some (some (.builtin "object.__setattr__"))),
    PySem.W.makesIn K (H.C_Leaves K),
    PySem.W.keepIn K (.ref (H.C_Leaves K)),
    He.eqO (PySem.W.findIn K (.ref (H.C_Leaves K)) "parted") (some none),
    He.eqO (PySem.W.nsIn K mainGlobals "Makes") (some (some (.ref (H.C_Makes K)))),
    PySem.W.plainGet K (H.C_Makes K) Str.empty,
    PySem.W.hasDictIn K (H.C_Makes K),
    PySem.W.plainOver K (H.C_Makes K),
    He.eqO (PySem.W.findIn K (.ref (H.C_Makes K)) "__setattr__") (some (some (.builtin "object.__setattr__"))),
    PySem.W.makesIn K (H.C_Makes K)]
def chk7 (K : PySem.W.Frag) : List Bool := [
    PySem.W.keepIn K (.ref (H.C_Makes K)),
    He.eqO (PySem.W.findIn K (.ref (H.C_Makes K)) "by_key") (some none),
    He.eqO (PySem.W.nsIn K mainGlobals "Bank") (some (some (.ref (H.C_Bank K)))),
    PySem.W.plainGet K (H.C_Bank K) Str.empty,
    PySem.W.hasDictIn K (H.C_Bank K),
    PySem.W.plainOver K (H.C_Bank K),
    He.eqO (PySem.W.findIn K (.ref (H.C_Bank K)) "__setattr__") (some (some (.builtin "object.__setattr__"))),
    PySem.W.makesIn K (H.C_Bank K),
    PySem.W.keepIn K (.ref (H.C_Bank K)),
    He.eqO (PySem.W.findIn K (.ref (H.C_Bank K)) "lots") (some none),
    He.eqO (PySem.W.findIn K (.ref (H.C_Bank K)) "size") (some none),
    He.eqO (PySem.W.nsIn K mainGlobals "Slots") (some (some (.ref (H.C_Slots K)))),
    PySem.W.plainGet K (H.C_Slots K) Str.empty,
    PySem.W.hasDictIn K (H.C_Slots K),
    PySem.W.plainOver K (H.C_Slots K),
    He.eqO (PySem.W.findIn K (.ref (H.C_Slots K)) "__setattr__") (some (some (.builtin "object.__setattr__"))),
    PySem.W.makesIn K (H.C_Slots K),
    PySem.W.keepIn K (.ref (H.C_Slots K)),
    He.eqO (PySem.W.findIn K (.ref (H.C_Slots K)) "old") (some none),
    He.eqO (PySem.W.findIn K (.ref (H.C_Slots K)) "young") (some none),
    He.eqO (PySem.W.findIn K (.ref (H.C_Slots K)) "shifted") (some none),
    He.eqO (PySem.W.findIn K (.ref (H.C_Slots K)) "number") (some none),
    He.eqO (PySem.W.nsIn K mainGlobals "Token") (some (some (.ref (H.C_Token K)))),
    decide (PySem.W.typeIn K (.ref (H.C_Token K)) = some (.type "type")),
    He.eqO (PySem.W.findIn K (.ref (H.C_Token K)) "__class__") (some (some (.builtin "object.__class__"))),
    He.eqO (PySem.W.specialIn K (.builtin "object.__class__") "__get__") (some (some (.builtin "getset_descriptor.__get__"))),
    decide (PySem.W.takesIn K (.builtin "object.__class__") = some true),
    decide (PySem.W.mroIn K (H.C_Token K) (.type "object") = some true),
    decide (PySem.W.subIn K (.ref (H.C_Token K)) (.ref (H.C_Token K)) = some true),
    decide (PySem.W.subIn K (.ref (H.C_Token K)) (.ref (H.C_Down K)) = some false)]
def chk8 (K : PySem.W.Frag) : List Bool := [
    decide (PySem.W.subIn K (.ref (H.C_Token K)) (.ref (H.C_Up K)) = some false),
    PySem.W.plainGet K (H.C_Token K) Str.empty,
    PySem.W.hasDictIn K (H.C_Token K),
    PySem.W.plainOver K (H.C_Token K),
    He.eqO (PySem.W.findIn K (.ref (H.C_Token K)) "__setattr__") (some (some (.builtin "object.__setattr__"))),
    PySem.W.makesIn K (H.C_Token K),
    PySem.W.keepIn K (.ref (H.C_Token K)),
    He.eqO (PySem.W.findIn K (.ref (H.C_Token K)) "at") (some none),
    He.eqO (PySem.W.findIn K (.ref (H.C_Token K)) "end") (some none),
    He.eqO (PySem.W.nsIn K mainGlobals "Up") (some (some (.ref (H.C_Up K)))),
    decide (PySem.W.typeIn K (.ref (H.C_Up K)) = some (.type "type")),
    He.eqO (PySem.W.findIn K (.ref (H.C_Up K)) "__class__") (some (some (.builtin "object.__class__"))),
    He.eqO (PySem.W.specialIn K (.builtin "object.__class__") "__get__") (some (some (.builtin "getset_descriptor.__get__"))),
    decide (PySem.W.takesIn K (.builtin "object.__class__") = some true),
    decide (PySem.W.mroIn K (H.C_Up K) (.type "object") = some true),
    decide (PySem.W.subIn K (.ref (H.C_Up K)) (.ref (H.C_Up K)) = some true),
    decide (PySem.W.subIn K (.ref (H.C_Up K)) (.ref (H.C_Down K)) = some false),
    decide (PySem.W.subIn K (.ref (H.C_Up K)) (.ref (H.C_Up K)) = some true),
    PySem.W.plainGet K (H.C_Up K) Str.empty,
    PySem.W.hasDictIn K (H.C_Up K),
    PySem.W.plainOver K (H.C_Up K),
    He.eqO (PySem.W.findIn K (.ref (H.C_Up K)) "__setattr__") (some (some (.builtin "object.__setattr__"))),
    PySem.W.makesIn K (H.C_Up K),
    PySem.W.keepIn K (.ref (H.C_Up K)),
    He.eqO (PySem.W.findIn K (.ref (H.C_Up K)) "at") (some none),
    He.eqO (PySem.W.findIn K (.ref (H.C_Up K)) "end") (some none),
    He.eqO (PySem.W.nsIn K mainGlobals "Down") (some (some (.ref (H.C_Down K)))),
    decide (PySem.W.typeIn K (.ref (H.C_Down K)) = some (.type "type")),
    He.eqO (PySem.W.findIn K (.ref (H.C_Down K)) "__class__") (some (some (.builtin "object.__class__"))),
    He.eqO (PySem.W.specialIn K (.builtin "object.__class__") "__get__") (some (some (.builtin "getset_descriptor.__get__")))]
def chk9 (K : PySem.W.Frag) : List Bool := [
    decide (PySem.W.takesIn K (.builtin "object.__class__") = some true),
    decide (PySem.W.mroIn K (H.C_Down K) (.type "object") = some true),
    decide (PySem.W.subIn K (.ref (H.C_Down K)) (.ref (H.C_Down K)) = some true),
    decide (PySem.W.subIn K (.ref (H.C_Down K)) (.ref (H.C_Down K)) = some true),
    decide (PySem.W.subIn K (.ref (H.C_Down K)) (.ref (H.C_Up K)) = some false),
    PySem.W.plainGet K (H.C_Down K) Str.empty,
    PySem.W.hasDictIn K (H.C_Down K),
    PySem.W.plainOver K (H.C_Down K),
    He.eqO (PySem.W.findIn K (.ref (H.C_Down K)) "__setattr__") (some (some (.builtin "object.__setattr__"))),
    PySem.W.makesIn K (H.C_Down K),
    PySem.W.keepIn K (.ref (H.C_Down K)),
    He.eqO (PySem.W.findIn K (.ref (H.C_Down K)) "at") (some none),
    He.eqO (PySem.W.findIn K (.ref (H.C_Down K)) "end") (some none),
    He.eqO (PySem.W.nsIn K mainGlobals "House") (some (some (.ref (H.C_House K)))),
    PySem.W.plainGet K (H.C_House K) Str.empty,
    PySem.W.hasDictIn K (H.C_House K),
    PySem.W.plainOver K (H.C_House K),
    He.eqO (PySem.W.findIn K (.ref (H.C_House K)) "__setattr__") (some (some (.builtin "object.__setattr__"))),
    PySem.W.makesIn K (H.C_House K),
    PySem.W.keepIn K (.ref (H.C_House K)),
    He.eqO (PySem.W.findIn K (.ref (H.C_House K)) "holders") (some none),
    He.eqO (PySem.W.findIn K (.ref (H.C_House K)) "now") (some none),
    He.eqO (PySem.W.findIn K (.ref (H.C_House K)) "floor") (some none),
    He.eqO (PySem.W.findIn K (.ref (H.C_House K)) "slots") (some none),
    He.eqO (PySem.W.findIn K (.ref (H.C_House K)) "leaves") (some none),
    He.eqO (PySem.W.findIn K (.ref (H.C_House K)) "past") (some none),
    He.eqO (PySem.W.findIn K (.ref (H.C_House K)) "pages") (some none),
    He.eqO (PySem.W.findIn K (.ref (H.C_House K)) "marked") (some none),
    PySem.W.readsIn K (H.C_WalkError K) (.type "type"),
    He.eqO (PySem.W.specialIn K (.ref (H.C_WalkError K)) "__getattribute__") (some (some (.builtin "type.__getattribute__")))]
def chk10 (K : PySem.W.Frag) : List Bool := [
    cfB (PySem.W.findCls K (.ref (H.C_WalkError K)) (.type "type") "__init__") (.builtin "ValueError.__init__"),
    PySem.W.readsIn K (H.C_Token K) (.type "type"),
    He.eqO (PySem.W.specialIn K (.ref (H.C_Token K)) "__getattribute__") (some (some (.builtin "type.__getattribute__"))),
    cfB (PySem.W.findCls K (.ref (H.C_Token K)) (.type "type") "__init__") (.ref (H.f42 K)),
    He.eqO (PySem.W.nsIn K mainGlobals "bool") (some none),
    He.eqO (PySem.W.nsIn K mainGlobals "dict") (some none),
    He.eqO (PySem.W.nsIn K mainGlobals "int") (some none),
    He.eqO (PySem.W.nsIn K mainGlobals "isinstance") (some none),
    He.eqO (PySem.W.nsIn K mainGlobals "len") (some none),
    He.eqO (PySem.W.nsIn K mainGlobals "list") (some none),
    He.eqO (PySem.W.nsIn K mainGlobals "max") (some none),
    He.eqO (PySem.W.nsIn K mainGlobals "min") (some none),
    He.eqO (PySem.W.nsIn K mainGlobals "range") (some none),
    He.eqO (PySem.W.nsIn K mainGlobals "sorted") (some none),
    He.eqO (PySem.W.nsIn K mainGlobals "str") (some none),
    He.eqO (PySem.W.nsIn K mainGlobals "tuple") (some none)]
def chk (K : PySem.W.Frag) : Bool := (chk0 K).all id && (chk1 K).all id && (chk2 K).all id && (chk3 K).all id && (chk4 K).all id && (chk5 K).all id && (chk6 K).all id && (chk7 K).all id && (chk8 K).all id && (chk9 K).all id && (chk10 K).all id
def nth : List Bool → Nat → Bool
  | [], _ => true
  | b :: _, 0 => b
  | _ :: r, n + 1 => nth r n
theorem nth_ok : ∀ {l : List Bool}, l.all id = true → ∀ i, nth l i = true
  | [], _, _ => rfl
  | b :: r, h, 0 => (He.ba (show (id b && r.all id) = true from h)).1
  | b :: r, h, n + 1 => nth_ok (He.ba (show (id b && r.all id) = true from h)).2 n
def as : List Addr := ([2, 3, 15, 17, 18, 20, 21, 22, 29, 30, 31, 32, 35, 42, 44, 45, 47, 48, 49, 50, 51, 54, 61, 63, 64, 66, 67, 68, 69, 70] : List Addr) ++ ([73, 80, 82, 83, 85, 86, 87, 88, 89, 92, 99, 101, 102, 104, 105, 106, 107, 108, 111, 118, 119, 120, 130, 132, 133, 135, 136, 137, 139, 140] : List Addr) ++ ([142, 143, 144, 146, 147, 149, 150, 151, 154, 155, 156, 158, 159, 161, 162, 163, 166, 167, 168, 170, 171, 173, 174, 175, 177, 178, 180, 181, 182, 184] : List Addr) ++ ([185, 187, 188, 189, 191, 192, 194, 195, 196, 197, 198, 199, 200, 203, 206, 207, 215, 217, 218, 220, 221, 222, 224, 225, 227, 228, 229, 231, 232, 234] : List Addr) ++ ([235, 236, 238, 239, 241, 242, 243, 246, 247, 248, 250, 251, 253, 254, 255, 256, 257, 258, 259, 262, 264, 265, 267, 268, 269, 271, 272, 274, 275, 283] : List Addr) ++ ([286, 287, 288, 290, 291, 293, 294, 295, 297, 298, 300, 301, 302, 304, 305, 307, 308, 309, 310, 311, 312, 313, 323, 325, 326, 328, 329, 330, 332, 333] : List Addr) ++ ([335, 336, 337, 339, 340, 342, 343, 344, 346, 347, 349, 350, 351, 353, 354, 356, 357, 358, 360, 361, 363, 364, 365, 367, 368, 370, 371, 372, 374, 375] : List Addr) ++ ([377, 378, 379, 381, 382, 384, 385, 386, 388, 389, 391, 392, 393, 395, 396, 398, 399, 400, 403, 404, 405, 407, 408, 410, 411, 412, 414, 415, 417, 418] : List Addr) ++ ([419, 421, 422, 424, 425, 426, 428, 429, 431, 432, 433, 435, 436, 438, 439, 440, 441, 442, 443, 444, 447, 449, 450, 452, 453, 454, 456, 457, 459, 460] : List Addr) ++ ([461, 463, 464, 466, 467, 468, 470, 471, 473, 474, 482, 484, 485, 487, 488, 489, 491, 492, 494, 495, 496, 498, 499, 501, 502, 503, 505, 506, 508, 509] : List Addr) ++ ([510, 511, 512, 513, 514, 517, 524, 525, 527, 528, 530, 531, 532, 534, 535, 537, 538, 539, 541, 542, 544, 545, 546, 547, 548, 551, 558, 559, 561, 562] : List Addr) ++ ([564, 565, 566, 568, 569, 571, 572, 573, 575, 576, 578, 579, 580, 581, 582, 585, 587, 588, 590, 591, 599, 601, 602, 604, 605, 606, 608, 609, 611, 612] : List Addr) ++ ([613, 615, 616, 618, 619, 620, 622, 623, 625, 626, 627, 629, 630, 632, 633, 634, 636, 637, 639, 640, 641, 643, 644, 646, 647, 648, 650, 651, 653, 654] : List Addr) ++ ([655, 656, 658, 659, 661, 662, 663, 665, 666, 668, 669, 670, 672, 673, 675, 676, 677, 679, 680, 682, 683, 684, 686, 687, 689, 690, 691, 693, 694, 696] : List Addr) ++ ([697, 698, 700, 701, 703, 704, 705, 707, 708, 710, 711, 712, 713, 716, 717, 718, 719, 720, 721, 722, 725, 727, 728, 730, 731, 732, 734, 735, 737, 738] : List Addr) ++ ([739, 741, 742, 744, 745, 746, 748, 749, 751, 752, 753, 755, 756, 758, 759, 760, 762, 763, 765, 766, 767, 770, 771, 772, 774, 775, 777, 778, 779, 781] : List Addr) ++ ([782, 784, 785, 786, 788, 789, 791, 792, 793, 795, 796, 798, 799, 800, 802, 803, 805, 806] : List Addr)
def obsY (g : Addr → Option Obj) : He.AlD := let K := He.frG g as; (chk K && (He.obsD fa fn K).1, (He.obsD fa fn K).2)
def hk : PySem.W.Hook where
  α := He.AlD
  obs := fun s => obsY s.heap.get?
  val := fun _ => He.valD fn
  says := fun _ h => ∃ K : PySem.W.Frag, K.In h ∧ chk K = true ∧ He.SaysD fa fn K
  of := fun _ s e => ⟨_, He.frG_in, by
    have e0 : obsY s.heap.get? = He.valD fn := e
    have e1 : (chk (He.frG s.heap.get? as) && (He.obsD fa fn (He.frG s.heap.get? as)).1) = true := (congrArg Prod.fst e0 : (obsY s.heap.get?).1 = (He.valD fn).1)
    have e2 : (He.obsD fa fn (He.frG s.heap.get? as)).2 = (He.valD fn).2 := (congrArg Prod.snd e0 : (obsY s.heap.get?).2 = (He.valD fn).2)
    exact ⟨(He.ba e1).1, Prod.ext (He.ba e1).2 e2⟩⟩
  keeps := fun _ _ _ ⟨K, hK, c⟩ k => ⟨K, PySem.W.Frag.In.keeps hK k, c⟩
def ob (s : PySem.W.SharedT) : He.AlD := obsY (HandSHeadRun.getT s)
theorem ob_eq (s : PySem.W.SharedT) : ob s = hk.obs s.abs := by
  have e : HandSHeadRun.getT s = s.abs.heap.get? := funext (HandSHeadRun.getT_eq s)
  show obsY _ = obsY _
  rw [e]
def names : List Str := (["_wall", "__name__", "WalkError", "NoKey", "Twice", "TooOld", "NoMoment", "NoToken", "MOST_KEYS", "LEAST_OF_TWO", "Leaves", "needed", "Makes", "PLACES", "mark_of", "slot_of", "LEAST_SIZE", "MOST_SIZE", "Bank", "Slots", "is_whole", "bounded", "bound_or_none", "in_order", "Token", "Up", "Down", "behind", "House", "_law_cell_at"] : List Str) ++ (["_law_drawn", "_law_key", "_law_deed", "_law_token", "_law_held", "_law_due", "_law_next", "_law_page", "_law_refused", "_law_walked"] : List Str)
abbrev R : PySem.W.OpenRow := PySem.W.OpenLaw.row PySem.Challenge.rw_staywalk_k47_whole_walk_through_a_moment
theorem run (w : World) : HandSHeadRun.RunEq R (PySem.W.view R.prog [48]) hk ob 5990 names w := by
  intro os
  kernel_rfl
end H
end Toy
open PySem PySem.W PySem.Calls PyProof.Rows in
set_option maxRecDepth 100000 in
set_option maxHeartbeats 0 in
theorem Toy.H.ends (call : WalkO (view Toy.H.R.prog [48]) Toy.H.names (XL (view Toy.H.R.prog [48]) []) Toy.H.hk.says Toy.H.R.toRowW (HandSHeadRun.topDef Toy.H.R.prog 48) [] fun f vs => PySem.call f vs) : PySem.Challenge.rw_staywalk_k47_whole_walk_through_a_moment.Holds := by
  w_on; o_law
  refine HandSHeadRun.head_any (r := Toy.H.R) (q := view Toy.H.R.prog [48]) (H := Toy.H.hk) (ob := Toy.H.ob) (M := 5990) (loose := Toy.H.names) (d := HandSHeadRun.topDef Toy.H.R.prog 48) (kwd := []) Toy.H.ob_eq
    (by kernel_rfl) (fun s => by kernel_rfl) Toy.H.run (by kernel_rfl) (by kernel_rfl) (by kernel_rfl) (by rfl) (by first | assumption | decide +kernel) (by decide +kernel) ⟨rfl, rfl, rfl, rfl, rfl, by decide +kernel⟩ ?hw call
  case hw => w_witness2
/-! Z1: a small calculus over HandS: what a def may rely on is a list of cells that it owns (L) and a part that stays (B). -/
namespace Z
open PySem L2

abbrev Cell := Addr × HO
/-- B stays for ever, L is owned, both lie in H, apart -/
structure W (B : Hp) (L : List Cell) (H : Hp) : Prop where
  sub : Same B H
  has : ∀ c ∈ L, H c.1 = some c.2
  nd : (L.map (·.1)).Nodup
  out : ∀ c ∈ L, B c.1 = none
def Same' (A B : Hp) : Prop := Same A B
theorem szl {n : Nat} (h : n ≤ 100000) : n ≤ sizeLine := Nat.le_trans h (by decide)
theorem szlt {n : Nat} (h : n < 100000) : n < sizeLine := Nat.lt_of_lt_of_le h (by decide)
theorem same_refl (H : Hp) : Same H H := fun _ _ e => e
theorem same_trans {A B C : Hp} (x : Same A B) (y : Same B C) : Same A C := fun b o e => y b o (x b o e)
theorem same_new {B : Hp} {p : Addr} {o : HO} (h : B p = none) : Same B (upd B p o) := fun b u e => by
  rw [upd_ne (ne_of_none e h)]
  exact e
theorem Same.tq {K : PySem.W.Frag} {H H' : Hp} {a : Addr} {xs : List V} (e : Same H H') (h : SqT K H a xs) : SqT K H' a xs := by
  rcases h with (h | ⟨o, h⟩) | h
  · exact .inl (.inl (e _ _ h))
  · exact .inl (.inr ⟨o, e _ _ h⟩)
  · exact .inr h
theorem Same.rd {A B : Hp} {a : Addr} {o : HO} (s : Same A B) (h : A a = some o) : B a = some o := s _ _ h
theorem Same.sq {K : PySem.W.Frag} {H H' : Hp} {a : Addr} {xs : List V} (e : Same H H') (h : SqL K H a xs) : SqL K H' a xs := L2.Same.seq e h
namespace W
variable {B B' H : Hp} {L L' R : List Cell} {a p : Addr} {o o' : HO}
theorem perm (w : W B L H) (h : L.Perm L') : W B L' H :=
  ⟨w.sub, fun c hc => w.has c (h.mem_iff.mpr hc), (h.map _).nodup_iff.mp w.nd, fun c hc => w.out c (h.mem_iff.mpr hc)⟩
theorem get (w : W B L H) (h : (a, o) ∈ L) : H a = some o := w.has _ h
theorem freeB (w : W B L H) (h : H p = none) : B p = none := by
  cases e : B p with
  | none => rfl
  | some u => rw [w.sub _ _ e] at h; cases h
theorem freeL (w : W B L H) (h : H p = none) : p ∉ L.map (·.1) := fun m => by
  obtain ⟨c, hc, rfl⟩ := List.mem_map.mp m
  rw [w.has c hc] at h
  cases h
/-- a new thing that stays -/
theorem newB (w : W B L H) (h : H p = none) (o : HO) : W (upd B p o) L (upd H p o) := by
  refine ⟨fun b u e => ?_, fun c hc => ?_, w.nd, fun c hc => ?_⟩
  · by_cases q : b = p
    · subst q; rw [upd_same] at e ⊢; exact e
    · rw [upd_ne q] at e ⊢; exact w.sub _ _ e
  · have q : c.1 ≠ p := fun q => w.freeL h (List.mem_map.mpr ⟨c, hc, q⟩)
    rw [upd_ne q]; exact w.has c hc
  · have q : c.1 ≠ p := fun q => w.freeL h (List.mem_map.mpr ⟨c, hc, q⟩)
    rw [upd_ne q]; exact w.out c hc
/-- a new thing that is owned -/
theorem newL (w : W B L H) (h : H p = none) (o : HO) : W B ((p, o) :: L) (upd H p o) := by
  refine ⟨fun b u e => ?_, fun c hc => ?_, ?_, fun c hc => ?_⟩
  · rw [upd_ne (ne_of_none e (w.freeB h))]; exact w.sub _ _ e
  · rcases List.mem_cons.mp hc with rfl | hc
    · exact upd_same
    · have q : c.1 ≠ p := fun q => w.freeL h (List.mem_map.mpr ⟨c, hc, q⟩)
      rw [upd_ne q]; exact w.has c hc
  · exact List.nodup_cons.mpr ⟨w.freeL h, w.nd⟩
  · rcases List.mem_cons.mp hc with rfl | hc
    · exact w.freeB h
    · exact w.out c hc
/-- an owned thing stays from now on -/
theorem give (w : W B ((p, o) :: L) H) : W (upd B p o) L H := by
  have n := List.nodup_cons.mp w.nd
  refine ⟨fun b u e => ?_, fun c hc => w.has c (List.mem_cons_of_mem _ hc), n.2, fun c hc => ?_⟩
  · by_cases q : b = p
    · subst q; rw [upd_same] at e; cases e; exact w.has _ (List.mem_cons_self ..)
    · rw [upd_ne q] at e; exact w.sub _ _ e
  · have q : c.1 ≠ p := fun q => n.1 (List.mem_map.mpr ⟨c, hc, q⟩)
    rw [upd_ne q]; exact w.out c (List.mem_cons_of_mem _ hc)
/-- owned things stay from now on -/
theorem giveAll : ∀ {A : List Cell} {B : Hp}, W B (A ++ L) H → ∃ B', Same B B' ∧ (∀ c ∈ A, B' c.1 = some c.2) ∧ W B' L H
  | [], B, w => ⟨B, same_refl B, fun c h => (nomatch h), w⟩
  | (p, o) :: A, B, w => by
    have h0 := w.out (p, o) (List.mem_cons_self ..)
    obtain ⟨B', s, h, w'⟩ := giveAll (A := A) w.give
    refine ⟨B', same_trans (same_new h0) s, fun c hc => ?_, w'⟩
    rcases List.mem_cons.mp hc with rfl | hc
    · exact s _ _ upd_same
    · exact h c hc
theorem drop (w : W B (L ++ R) H) : W B R H :=
  ⟨w.sub, fun c hc => w.has c (List.mem_append_right _ hc), by have n := w.nd; rw [List.map_append] at n; exact (List.nodup_append.mp n).2.1, fun c hc => w.out c (List.mem_append_right _ hc)⟩
theorem drop1 (w : W B ((p, o) :: L) H) : W B L H := W.drop (L := [(p, o)]) w
theorem outB (w : W B L H) (h : (a, o) ∈ L) : B a = none := w.out _ h
/-- an owned thing is written -/
theorem put (w : W B (L ++ (a, o) :: R) H) (o' : HO) : W B (L ++ (a, o') :: R) (upd H a o') := by
  have n := w.nd
  rw [List.map_append, List.map_cons] at n
  have n1 := List.nodup_append.mp n
  have n2 := List.nodup_cons.mp n1.2.1
  have ha : ∀ c ∈ L ++ R, c.1 ≠ a := fun c hc q => by
    rcases List.mem_append.mp hc with hc | hc
    · exact n1.2.2 _ (List.mem_map.mpr ⟨c, hc, rfl⟩) _ (List.mem_cons_self ..) q
    · exact n2.1 (List.mem_map.mpr ⟨c, hc, q⟩)
  have hm : ∀ c ∈ L ++ (a, o') :: R, c = (a, o') ∨ c ∈ L ++ R := fun c hc => by
    rcases List.mem_append.mp hc with hc | hc
    · exact .inr (List.mem_append_left _ hc)
    · rcases List.mem_cons.mp hc with hc | hc
      · exact .inl hc
      · exact .inr (List.mem_append_right _ hc)
  have hi : ∀ c ∈ L ++ R, c ∈ L ++ (a, o) :: R := fun c hc => by
    rcases List.mem_append.mp hc with hc | hc
    · exact List.mem_append_left _ hc
    · exact List.mem_append_right _ (List.mem_cons_of_mem _ hc)
  have h0 : B a = none := w.out (a, o) (List.mem_append_right _ (List.mem_cons_self ..))
  refine ⟨fun b u e => ?_, fun c hc => ?_, ?_, fun c hc => ?_⟩
  · rw [upd_ne (ne_of_none e h0)]; exact w.sub _ _ e
  · rcases hm c hc with rfl | hc
    · exact upd_same
    · rw [upd_ne (ha c hc)]; exact w.has c (hi c hc)
  · rw [List.map_append, List.map_cons]; exact n
  · rcases hm c hc with rfl | hc
    · exact h0
    · exact w.out c (hi c hc)
theorem put0 (w : W B ((a, o) :: R) H) (o' : HO) : W B ((a, o') :: R) (upd H a o') := put (L := []) w o'
theorem put1 {c1 : Cell} (w : W B (c1 :: (a, o) :: R) H) (o' : HO) : W B (c1 :: (a, o') :: R) (upd H a o') := put (L := [c1]) w o'
theorem put2 {c1 c2 : Cell} (w : W B (c1 :: c2 :: (a, o) :: R) H) (o' : HO) : W B (c1 :: c2 :: (a, o') :: R) (upd H a o') := put (L := [c1, c2]) w o'
theorem put3 {c1 c2 c3 : Cell} (w : W B (c1 :: c2 :: c3 :: (a, o) :: R) H) (o' : HO) : W B (c1 :: c2 :: c3 :: (a, o') :: R) (upd H a o') := put (L := [c1, c2, c3]) w o'
theorem seq {K : PySem.W.Frag} {xs : List V} (w : W B L H) (h : SqL K B a xs) : SqL K H a xs := Same.seq w.sub h
theorem rd (w : W B L H) (h : B a = some o) : H a = some o := w.sub _ _ h
theorem sq {K : PySem.W.Frag} {xs : List V} (w : W B L H) (h : SqL K B a xs) : SqL K H a xs := L2.Same.seq w.sub h
theorem tq {K : PySem.W.Frag} {xs : List V} (w : W B L H) (h : SqT K B a xs) : SqT K H a xs := Z.Same.tq w.sub h
theorem law {K : PySem.W.Frag} {a : Addr} {xs : List V} (h : SqL K H a xs) : ∃ B, SqL K B a xs ∧ W B [] H := ⟨H, h, ⟨same_refl H, by simp, by simp, by simp⟩⟩
theorem nil (H : Hp) : W H [] H := ⟨same_refl H, by simp, by simp, by simp⟩
end W
/-! ### readings, step by step -/
def Br (b : Bool) (A C : Prop) : Prop := if b = true then A else C
def rTst (x : V) (H : Hp) (Q : Bool → Hp → Prop) : Prop := ∃ k, x = .bl k ∧ Q k H
section
variable {K : PySem.W.Frag} {σ : L2.St} {H : Hp} {D : Ends} {t u tb : TS} {te ta tx tc : TE} {tt tu tw : TT} {Q : VK} {R : Bool → Hp → Prop} {v x y : V} {b : Bool} {A C : Prop} {i : Nat} {g : TG} {r r' : R2}
theorem g_seq (h : t { D with nx := u D } σ H) : tSeq t u D σ H := h
theorem g_next (h : D.nx σ H) : tNext D σ H := h
theorem g_brk (h : D.bk σ H) : tBreak D σ H := h
theorem g_cont (h : D.ct σ H) : tCont D σ H := h
theorem g_asg (h : te σ H fun x H1 => g x σ H1 D.nx) : tAsg te g D σ H := h
theorem g_name {Q : L2.St → Hp → Prop} (h : Q (σ.set i (some v)) H) : gName i v σ H Q := h
theorem g_dropE (h : te σ H fun _ H1 => D.nx σ H1) : tDrop te D σ H := h
theorem g_ret (h : te σ H D.rt) : tRet te D σ H := h
theorem g_retN (h : D.rt .non H) : tRetN D σ H := h
theorem g_ifS (h : tt σ H fun b H1 => Br b (t D σ H1) (u D σ H1)) : tIfS tt t u D σ H := h
theorem g_ifJ (J : L2.St → Hp → Prop) (hJ : ∀ σ' H', J σ' H' → D.nx σ' H') (h : ∀ N : L2.St → Hp → Prop, (∀ σ' H', J σ' H' → N σ' H') → tt σ H fun b H1 => Br b (t { D with nx := N } σ H1) (u { D with nx := N } σ H1)) : tIfS tt t u D σ H := h D.nx hJ
theorem g_test (h : te σ H fun x H1 => rTst x H1 R) : tTest te σ H R := h
theorem g_tB (h : te σ H fun x H1 => rTst x H1 R) : tB te σ H R := h
theorem g_tst (h : R b H) : rTst (.bl b) H R := ⟨b, rfl, h⟩
theorem g_and (h : tt σ H fun b H1 => Br b (tu σ H1 R) (R false H1)) : tAnd tt tu σ H R := h
theorem g_or (h : tt σ H fun b H1 => Br b (R true H1) (tu σ H1 R)) : tOr tt tu σ H R := h
theorem g_not (h : tt σ H fun b H1 => R (!b) H1) : tNot tt σ H R := h
theorem g_andV (h : te σ H fun x H1 => rTst x H1 fun b H1 => Br b (tx σ H1 Q) (Q (.bl false) H1)) : tAndV te tx σ H Q := h
theorem g_orV (h : te σ H fun x H1 => rTst x H1 fun b H1 => Br b (Q (.bl true) H1) (tx σ H1 Q)) : tOrV te tx σ H Q := h
theorem g_notV (h : te σ H fun x H1 => rTst x H1 fun b H1 => Q (.bl (!b)) H1) : tNotV te σ H Q := h
theorem g_if (h : tt σ H fun b H1 => Br b (te σ H1 Q) (tx σ H1 Q)) : tIf tt te tx σ H Q := h
theorem g_yes (h : R true H) : tYes σ H R := h
theorem g_var (e : σ[i]? = some (some v)) (h : Q v H) : tVar i σ H Q := ⟨v, e, h⟩
theorem g_c (h : Q v H) : tC v σ H Q := h
theorem g_op (h : ta σ H fun x H1 => tx σ H1 fun y H2 => r x y H2 Q) : tOp r ta tx σ H Q := h
theorem g_un {r : V → Hp → VK → Prop} (h : ta σ H fun x H1 => r x H1 Q) : tUn r ta σ H Q := h
theorem g_chain (h : ta σ H fun x H1 => tx σ H1 fun y H2 => r x y H2 fun z H3 => rTst z H3 fun k H4 => Br k (tc σ H4 fun w' H4 => r' y w' H4 Q) (Q (.bl false) H4)) : tChain r r' ta tx tc σ H Q := h
theorem g_cb {r : List V → Hp → VK → Prop} {t : TA} (h : t σ H fun vs H1 => r vs H1 Q) : tCB r t σ H Q := h
theorem g_nil {Q : List V → Hp → Prop} (h : Q [] H) : tNil σ H Q := h
theorem g_cons {tr : TA} {Q : List V → Hp → Prop} (h : te σ H fun x H1 => tr σ H1 fun xs H2 => Q (x :: xs) H2) : tCons te tr σ H Q := h
theorem g_call {sp : Sp} {dvs : List V} {E : XK} {t : TA} (h : t σ H fun vs H1 => sp (vs ++ dvs) H1 Q E) : tCall sp dvs E t σ H Q := h
theorem g_aug {ti : TIp} (e : σ[i]? = some (some v)) (h : te σ H fun y H1 => ti v y H1 fun z H2 => D.nx (σ.set i (some z)) H2) : tAug i te ti D σ H := ⟨v, e, h⟩
theorem g_ip {f : Int → Int → Int} {m n : Int} (h : Q (.int (f m n)) H) : ipI f (.int m) (.int n) H Q := ⟨m, n, rfl, rfl, h⟩
theorem r_I {Cc : Int → Int → Prop} {gg : Int → Int → V} {m n : Int} (c : Cc m n) (h : Q (gg m n) H) : rI Cc gg (.int m) (.int n) H Q := ⟨m, n, rfl, rfl, c, h⟩
theorem r_I0 {gg : Int → Int → V} {m n : Int} (h : Q (gg m n) H) : rI0 gg (.int m) (.int n) H Q := ⟨m, n, rfl, rfl, h⟩
theorem r_U {gg : Int → V} {m : Int} (h : Q (gg m) H) : rU gg (.int m) H Q := ⟨m, rfl, h⟩
theorem dec_ii {m n : Int} : decide (V.int m = V.int n) = decide (m = n) := by simp
theorem dec_bb {m n : Bool} : decide (V.bl m = V.bl n) = decide (m = n) := by simp
theorem dec_ss {m n : Str} : decide (V.str m = V.str n) = decide (m = n) := by simp
theorem r_eqI {m n : Int} (h : Q (.bl (decide (m = n))) H) : rEq (.int m) (.int n) H Q := ⟨rfl, by rw [dec_ii]; exact h⟩
theorem r_neI {m n : Int} (h : Q (.bl (!decide (m = n))) H) : rNe (.int m) (.int n) H Q := ⟨rfl, by rw [dec_ii]; exact h⟩
theorem r_eqB {m n : Bool} (h : Q (.bl (decide (m = n))) H) : rEq (.bl m) (.bl n) H Q := ⟨rfl, by rw [dec_bb]; exact h⟩
theorem r_neB {m n : Bool} (h : Q (.bl (!decide (m = n))) H) : rNe (.bl m) (.bl n) H Q := ⟨rfl, by rw [dec_bb]; exact h⟩
theorem r_eqS {m n : Str} (h : Q (.bl (decide (m = n))) H) : rEq (.str m) (.str n) H Q := ⟨rfl, by rw [dec_ss]; exact h⟩
theorem r_neS {m n : Str} (h : Q (.bl (!decide (m = n))) H) : rNe (.str m) (.str n) H Q := ⟨rfl, by rw [dec_ss]; exact h⟩
def rTupN (Q : VK) (xs : List V) (H1 : Hp) : Prop := xs.length ≤ sizeLine ∧ ∀ p, H1 p = none → Q (.ref p) (upd H1 p (.tup xs))
def rLstN (Q : VK) (xs : List V) (H1 : Hp) : Prop := xs.length ≤ sizeLine ∧ ∀ p, H1 p = none → Q (.ref p) (upd H1 p (.lst xs))
theorem r_isB {m n : Bool} (h : Q (.bl (decide (m = n))) H) : rIsB (.bl m) (.bl n) H Q := ⟨m, n, rfl, rfl, h⟩
theorem r_notB {m n : Bool} (h : Q (.bl (!decide (m = n))) H) : rNotB (.bl m) (.bl n) H Q := ⟨m, n, rfl, rfl, h⟩
theorem r_tup {ta : TA} (h : ta σ H (rTupN Q)) : tTup ta σ H Q := h
theorem r_lst {ta : TA} (h : ta σ H (rLstN Q)) : tLst ta σ H Q := h
/-! new things that stay -/
section
variable {B : Hp} {L : List Cell} {xs ys : List V}
theorem d_tup (w : W B L H) (hl : xs.length ≤ sizeLine) (q : ∀ p B' H', H p = none → Same B B' → B' p = some (.tup xs) → W B' L H' → Q (.ref p) H') : rTupN Q xs H :=
  ⟨hl, fun p hp => q p _ _ hp (same_new (w.freeB hp)) upd_same (w.newB hp _)⟩
theorem d_lst (w : W B L H) (hl : xs.length ≤ sizeLine) (q : ∀ p B' H', H p = none → Same B B' → B' p = some (.lst xs) → W B' L H' → Q (.ref p) H') : rLstN Q xs H :=
  ⟨hl, fun p hp => q p _ _ hp (same_new (w.freeB hp)) upd_same (w.newB hp _)⟩
theorem d_dnew (w : W B L H) (q : ∀ p B' H', H p = none → Same B B' → B' p = some (.dK []) → W B' L H' → Q (.ref p) H') : tDNewK σ H Q :=
  fun p hp => q p _ _ hp (same_new (w.freeB hp)) upd_same (w.newB hp _)
theorem d_cat {a b : Addr} (w : W B L H) (h1 : H a = some (.lst xs)) (h2 : H b = some (.lst ys)) (hl : xs.length + ys.length ≤ sizeLine)
    (q : ∀ p B' H', H p = none → Same B B' → B' p = some (.lst (xs ++ ys)) → W B' L H' → Q (.ref p) H') : rCat (.ref a) (.ref b) H Q :=
  ⟨a, b, xs, ys, rfl, rfl, h1, h2, hl, fun p hp => q p _ _ hp (same_new (w.freeB hp)) upd_same (w.newB hp _)⟩
theorem d_slL {a : Addr} {lo hi : Option Int} (w : W B L H) (h : SqL K H a xs) (q : ∀ p B' H', H p = none → Same B B' → B' p = some (.lst (cutV xs lo hi)) → W B' L H' → Q (.ref p) H') : rSlL K (.ref a) lo hi H Q :=
  ⟨a, xs, rfl, h, fun p hp => q p _ _ hp (same_new (w.freeB hp)) upd_same (w.newB hp _)⟩
/-! new things that are owned -/
theorem o_lst (w : W B L H) (hl : xs.length ≤ sizeLine) (q : ∀ p H', H p = none → W B ((p, .lst xs) :: L) H' → Q (.ref p) H') : rLstN Q xs H :=
  ⟨hl, fun p hp => q p _ hp (w.newL hp _)⟩
theorem o_dnew (w : W B L H) (q : ∀ p H', H p = none → W B ((p, .dK []) :: L) H' → Q (.ref p) H') : tDNewK σ H Q :=
  fun p hp => q p _ hp (w.newL hp _)
end
section
variable {r1 r2 r3 r4 : R2} {t1 t2 t3 t4 t5 : TE}
end
/-! branches -/
theorem br {p : Prop} [Decidable p] (h1 : p → A) (h2 : ¬ p → C) : Br (decide p) A C := by
  unfold Br
  by_cases h : p
  · rw [if_pos (decide_eq_true h)]; exact h1 h
  · rw [if_neg (by simp [h])]; exact h2 h
theorem brN {p : Prop} [Decidable p] (h1 : ¬ p → A) (h2 : p → C) : Br (!decide p) A C := by
  unfold Br
  by_cases h : p
  · rw [if_neg (by simp [h])]; exact h2 h
  · rw [if_pos (by simp [h])]; exact h1 h
theorem br_pt {p : Prop} [Decidable p] (c : p) (h : A) : Br (decide p) A C := br (fun _ => h) fun n => (n c).elim
theorem br_pf {p : Prop} [Decidable p] (c : ¬ p) (h : C) : Br (decide p) A C := br (fun n => (c n).elim) fun _ => h
theorem br_nt {p : Prop} [Decidable p] (c : ¬ p) (h : A) : Br (!decide p) A C := brN (fun _ => h) fun n => (c n).elim
theorem br_nf {p : Prop} [Decidable p] (c : p) (h : C) : Br (!decide p) A C := brN (fun n => (n c).elim) fun _ => h
theorem brB (h1 : b = true → A) (h2 : b = false → C) : Br b A C := by
  unfold Br
  cases b
  · rw [if_neg (by simp)]; exact h2 rfl
  · rw [if_pos rfl]; exact h1 rfl
theorem brBN (h1 : b = false → A) (h2 : b = true → C) : Br (!b) A C := by
  cases b
  · exact brB (fun _ => h1 rfl) (fun z => nomatch z)
  · exact brB (fun z => nomatch z) (fun _ => h2 rfl)
theorem brT (h : A) : Br true A C := by unfold Br; rw [if_pos rfl]; exact h
theorem brF (h : C) : Br false A C := by unfold Br; rw [if_neg (by simp)]; exact h
theorem br_rn {p : Addr} (h : C) : Br (decide (V.ref p = V.non)) A C := br_pf nofun h
theorem br_in {n : Int} (h : C) : Br (decide (V.int n = V.non)) A C := br_pf nofun h
theorem br_sn {n : Str} (h : C) : Br (decide (V.str n = V.non)) A C := br_pf nofun h
theorem br_nn (h : A) : Br (decide (V.non = V.non)) A C := br_pt rfl h
theorem brN_rn {p : Addr} (h : A) : Br (!decide (V.ref p = V.non)) A C := br_nt nofun h
theorem brN_in {n : Int} (h : A) : Br (!decide (V.int n = V.non)) A C := br_nt nofun h
theorem brN_sn {n : Str} (h : A) : Br (!decide (V.str n = V.non)) A C := br_nt nofun h
theorem brN_nn (h : C) : Br (!decide (V.non = V.non)) A C := br_nf rfl h
theorem brNT (h : C) : Br (!true) A C := brF h
theorem brNF (h : A) : Br (!false) A C := brT h
theorem br_t (e : b = true) (h : A) : Br b A C := by rw [e]; exact brT h
theorem br_f (e : b = false) (h : C) : Br b A C := by rw [e]; exact brF h
end
/-! ### loops, by the turn -/
def FOR (J : It) (g : TG) (tb : TS) (D : Ends) (σ : L2.St) (H1 : Hp) : Prop := ∃ W : Nat → Nat → L2.St → Hp → Prop, (∃ m, W 0 m σ H1) ∧ ∀ i m σ H, W i m σ H →
  (J.stop i H ∧ D.nx σ H) ∨ (J.go i H ∧ ∃ N : L2.St → Hp → Prop, (∀ σ' H', N σ' H' → ∃ m', m' < m ∧ W (i + 1) m' σ' H') ∧ ∀ x H', J.yld i H x H' → g x σ H' fun σ2 H2 => tb { D with nx := N, ct := N, bk := D.nx } σ2 H2)
section
variable {K : PySem.W.Frag} {σ : L2.St} {H : Hp} {D : Ends} {tb : TS} {g : TG} {wi : TI} {R : It → Hp → Prop}
theorem g_for (h : wi σ H fun J H1 => FOR J g tb D σ H1) : tFor wi g tb D σ H := h
def rRng1 (R : It → Hp → Prop) (vs : List V) (H1 : Hp) : Prop := ∃ j : Int, vs = [.int j] ∧ -(2 ^ 62) ≤ j ∧ j < 2 ^ 62 ∧ R (Itr 0 j.toNat) H1
def rRng2 (R : It → Hp → Prop) (vs : List V) (H1 : Hp) : Prop := ∃ i j : Int, vs = [.int i, .int j] ∧ (-(2 ^ 62) ≤ i ∧ i < 2 ^ 62 ∧ -(2 ^ 62) ≤ j ∧ j < 2 ^ 62) ∧ R (Itr i (j - i).toNat) H1
def rIl (K : PySem.W.Frag) (R : It → Hp → Prop) (x : V) (H1 : Hp) : Prop := ∃ a, x = .ref a ∧ (∃ xs, SqL K H1 a xs) ∧ R (Itl K a) H1
def rIt (K : PySem.W.Frag) (R : It → Hp → Prop) (x : V) (H1 : Hp) : Prop := ∃ a, x = .ref a ∧ (∃ xs, SqT K H1 a xs) ∧ R (Itt K a) H1
theorem g_rng1 {ta : TA} (h : ta σ H (rRng1 R)) : iRng1 ta σ H R := h
theorem g_rng2 {ta : TA} (h : ta σ H (rRng2 R)) : iRng2 ta σ H R := h
theorem g_ilist {tl : TE} (h : tl σ H (rIl K R)) : iList K tl σ H R := h
theorem g_itup {tl : TE} (h : tl σ H (rIt K R)) : iTup K tl σ H R := h
theorem r_rng1 {m : Int} (h : -(2 ^ 62) ≤ m ∧ m < 2 ^ 62) (q : R (Itr 0 m.toNat) H) : rRng1 R [.int m] H := ⟨m, rfl, h.1, h.2, q⟩
theorem r_rng2 {i j : Int} (h : -(2 ^ 62) ≤ i ∧ i < 2 ^ 62 ∧ -(2 ^ 62) ≤ j ∧ j < 2 ^ 62) (q : R (Itr i (j - i).toNat) H) : rRng2 R [.int i, .int j] H := ⟨i, j, rfl, h, q⟩
theorem r_il {a : Addr} {xs : List V} (h : SqL K H a xs) (q : R (Itl K a) H) : rIl K R (.ref a) H := ⟨a, rfl, ⟨xs, h⟩, q⟩
theorem r_it {a : Addr} {xs : List V} (h : SqT K H a xs) (q : R (Itt K a) H) : rIt K R (.ref a) H := ⟨a, rfl, ⟨xs, h⟩, q⟩
/-- a loop over lo, lo + 1, .. -/
theorem FOR.range {lo : Int} {n : Nat} (Pv : Nat → L2.St → Hp → Prop) (h0 : Pv 0 σ H)
    (hs : ∀ i σ H, i < n → Pv i σ H → g (.int (lo + i)) σ H fun σ2 H2 => tb { D with nx := Pv (i + 1), ct := Pv (i + 1), bk := D.nx } σ2 H2) (hd : ∀ σ H, Pv n σ H → D.nx σ H) : FOR (Itr lo n) g tb D σ H :=
  for_range Pv h0 hs hd
theorem FOR.list {a : Addr} {xs : List V} (Pv : Nat → L2.St → Hp → Prop) (h0 : Pv 0 σ H) (hl : ∀ i σ H, i ≤ xs.length → Pv i σ H → SqL K H a xs)
    (hs : ∀ i x σ H, xs[i]? = some x → Pv i σ H → g x σ H fun σ2 H2 => tb { D with nx := Pv (i + 1), ct := Pv (i + 1), bk := D.nx } σ2 H2) (hd : ∀ σ H, Pv xs.length σ H → D.nx σ H) : FOR (Itl K a) g tb D σ H :=
  for_list Pv h0 hl hs hd
/-- .. both ways out (the end, a break) by one word J -/
theorem FOR.listJ {a : Addr} {xs : List V} (J : L2.St → Hp → Prop) (hJ : ∀ σ H, J σ H → D.nx σ H) (Pv : Nat → L2.St → Hp → Prop) (h0 : Pv 0 σ H) (hl : ∀ i σ H, i ≤ xs.length → Pv i σ H → SqL K H a xs)
    (hs : ∀ N : L2.St → Hp → Prop, (∀ σ' H', J σ' H' → N σ' H') → ∀ i x σ H, xs[i]? = some x → Pv i σ H → g x σ H fun σ2 H2 => tb { D with nx := Pv (i + 1), ct := Pv (i + 1), bk := N } σ2 H2) (hd : ∀ σ H, Pv xs.length σ H → J σ H) : FOR (Itl K a) g tb D σ H :=
  FOR.list (K := K) Pv h0 hl (hs D.nx hJ) fun σ H p => hJ _ _ (hd σ H p)
theorem FOR.tup {a : Addr} {xs : List V} (Pv : Nat → L2.St → Hp → Prop) (h0 : Pv 0 σ H) (hl : ∀ i σ H, i ≤ xs.length → Pv i σ H → SqT K H a xs)
    (hs : ∀ i x σ H, xs[i]? = some x → Pv i σ H → g x σ H fun σ2 H2 => tb { D with nx := Pv (i + 1), ct := Pv (i + 1), bk := D.nx } σ2 H2) (hd : ∀ σ H, Pv xs.length σ H → D.nx σ H) : FOR (Itt K a) g tb D σ H :=
  for_tup Pv h0 hl hs hd
end
def LC (J : It) (D : Addr) (g : TG) (tt : TT) (te : TE) (vs : List Nat) (σ : L2.St) (H1 : Hp) (Q : VK) : Prop := ∃ W : Nat → Nat → Hp → Prop, (∃ m, W 0 m (upd H1 D (.lst []))) ∧ ∀ i m H, W i m H →
  (J.stop i H ∧ Q (.ref D) H) ∨ (J.go i H ∧ ∃ Nx : Hp → Prop, (∀ H', Nx H' → ∃ m', m' < m ∧ W (i + 1) m' H') ∧ ∀ x H', J.yld i H x H' → g x (wipe σ vs) H' fun σ2 H2 => wipe σ2 vs = wipe σ vs ∧ tt σ2 H2 fun b H3 =>
    if b = true then te σ2 H3 fun y H4 => ∃ acc, H4 D = some (.lst acc) ∧ acc.length < sizeLine ∧ Nx (upd H4 D (.lst (acc ++ [y]))) else Nx H3)
/-- what an element's making asks: the items so far stand at D, one more comes -/
def rAcc (D : Addr) (Nx : Hp → Prop) (y : V) (H4 : Hp) : Prop := ∃ acc, H4 D = some (.lst acc) ∧ acc.length < sizeLine ∧ Nx (upd H4 D (.lst (acc ++ [y])))
theorem g_lc {wi : TI} {g : TG} {tt : TT} {te : TE} {vs : List Nat} {σ : L2.St} {H : Hp} {Q : VK} (h : wi σ H fun J H1 => ∀ D, H1 D = none → LC J D g tt te vs σ H1 Q) : tLc wi g tt te vs σ H Q := h
section
variable {K : PySem.W.Frag} {B H H1 : Hp} {L : List Cell} {D : Addr} {Q : VK} {g : TG} {tt : TT} {te : TE} {vs : List Nat} {σ : L2.St} {acc : List V} {y : V} {Nx : Hp → Prop}
theorem r_acc (w : W B ((D, .lst acc) :: L) H) (hl : acc.length < sizeLine) (h : ∀ H', W B ((D, .lst (acc ++ [y])) :: L) H' → Nx H') : rAcc D Nx y H :=
  ⟨acc, w.has _ (List.mem_cons_self ..), hl, h _ (w.put0 _)⟩
/-- a comprehension over a list of what stays: Pv i B acc, what the first i items have given -/
theorem LC.list {a : Addr} {xs : List V} (w : W B L H1) (hD : H1 D = none) (hx : SqL K B a xs) (hlen : xs.length < sizeLine) (Pv : Nat → Hp → List V → Prop) (h0 : Pv 0 B [])
    (hs : ∀ i x B' acc H (Nx : Hp → Prop), xs[i]? = some x → Same B B' → W B' ((D, .lst acc) :: L) H → Pv i B' acc → acc.length ≤ i → acc.length < sizeLine →
      (∀ B'' acc' H', Same B' B'' → W B'' ((D, .lst acc') :: L) H' → Pv (i + 1) B'' acc' → acc'.length ≤ i + 1 → Nx H') →
      g x (wipe σ vs) H fun σ2 H2 => wipe σ2 vs = wipe σ vs ∧ tt σ2 H2 fun b H3 => Br b (te σ2 H3 (rAcc D Nx)) (Nx H3))
    (hd : ∀ B' B'' acc H, Same B B'' → Same' B' B'' → B'' D = some (.lst acc) → W B'' L H → Pv xs.length B' acc → acc.length ≤ xs.length → Q (.ref D) H) : LC (Itl K a) D g tt te vs σ H1 Q := by
  refine lc_list (K := K) (a := a) (xs := xs) (fun i H => ∃ B' acc, Same B B' ∧ W B' ((D, .lst acc) :: L) H ∧ Pv i B' acc ∧ acc.length ≤ i) ⟨B, [], same_refl B, w.newL hD _, h0, Nat.le_refl _⟩
    (fun i H _ ⟨B', acc, s, w', _⟩ => Same.seq (same_trans s w'.sub) hx) ?_ (fun H ⟨B', acc, s, w', p, l⟩ => hd B' _ acc H (same_trans s (same_new (w'.out _ (List.mem_cons_self ..)))) (same_new (w'.out _ (List.mem_cons_self ..))) upd_same w'.give p l)
  rintro i x H hi ⟨B', acc, s, w', p, l⟩
  have hil := (List.getElem?_eq_some_iff.mp hi).1
  exact hs i x B' acc H _ hi s w' p l (by omega) fun B'' acc' H' s' w'' p' l' => ⟨B'', acc', same_trans s s', w'', p', l'⟩
theorem LC.range {lo : Int} {n : Nat} (w : W B L H1) (hD : H1 D = none) (hlen : n < sizeLine) (Pv : Nat → Hp → List V → Prop) (h0 : Pv 0 B [])
    (hs : ∀ (i : Nat) B' acc H (Nx : Hp → Prop), i < n → Same B B' → W B' ((D, .lst acc) :: L) H → Pv i B' acc → acc.length ≤ i → acc.length < sizeLine →
      (∀ B'' acc' H', Same B' B'' → W B'' ((D, .lst acc') :: L) H' → Pv (i + 1) B'' acc' → acc'.length ≤ i + 1 → Nx H') →
      g (.int (lo + i)) (wipe σ vs) H fun σ2 H2 => wipe σ2 vs = wipe σ vs ∧ tt σ2 H2 fun b H3 => Br b (te σ2 H3 (rAcc D Nx)) (Nx H3))
    (hd : ∀ B' B'' acc H, Same B B'' → Same' B' B'' → B'' D = some (.lst acc) → W B'' L H → Pv n B' acc → acc.length ≤ n → Q (.ref D) H) : LC (Itr lo n) D g tt te vs σ H1 Q := by
  refine lc_range (lo := lo) (n := n) (fun i H => ∃ B' acc, Same B B' ∧ W B' ((D, .lst acc) :: L) H ∧ Pv i B' acc ∧ acc.length ≤ i) ⟨B, [], same_refl B, w.newL hD _, h0, Nat.le_refl _⟩
    ?_ (fun H ⟨B', acc, s, w', p, l⟩ => hd B' _ acc H (same_trans s (same_new (w'.out _ (List.mem_cons_self ..)))) (same_new (w'.out _ (List.mem_cons_self ..))) upd_same w'.give p l)
  rintro i H hi ⟨B', acc, s, w', p, l⟩
  exact hs i B' acc H _ hi s w' p l (by omega) fun B'' acc' H' s' w'' p' l' => ⟨B'', acc', same_trans s s', w'', p', l'⟩
end
section
variable {K : PySem.W.Frag} {B H H1 : Hp} {L : List Cell} {D : Addr} {Q : VK} {g : TG} {tt : TT} {te : TE} {vs : List Nat} {σ : L2.St} {acc : List V} {y : V} {Nx : Hp → Prop}
/-- a comprehension over a list, owned or not; what it makes may be owned, too (A) -/
theorem LC.listA {a : Addr} {xs : List V} (w : W B L H1) (hD : H1 D = none) (hx : ∀ B' A acc H, Same B B' → W B' ((D, .lst acc) :: (A ++ L)) H → SqL K H a xs) (hlen : xs.length < sizeLine) (Pv : Nat → Hp → List Cell → List V → Prop) (h0 : Pv 0 B [] [])
    (hs : ∀ i x B' A acc H (Nx : Hp → Prop), xs[i]? = some x → Same B B' → W B' ((D, .lst acc) :: (A ++ L)) H → Pv i B' A acc → acc.length ≤ i → acc.length < sizeLine →
      (∀ B'' A' acc' H', Same B' B'' → W B'' ((D, .lst acc') :: (A' ++ L)) H' → Pv (i + 1) B'' A' acc' → acc'.length ≤ i + 1 → Nx H') →
      g x (wipe σ vs) H fun σ2 H2 => wipe σ2 vs = wipe σ vs ∧ tt σ2 H2 fun b H3 => Br b (te σ2 H3 (rAcc D Nx)) (Nx H3))
    (hd : ∀ B' A acc H, Same B B' → W B' ((D, .lst acc) :: (A ++ L)) H → Pv xs.length B' A acc → acc.length ≤ xs.length → Q (.ref D) H) : LC (Itl K a) D g tt te vs σ H1 Q := by
  refine lc_list (K := K) (a := a) (xs := xs) (fun i H => ∃ B' A acc, Same B B' ∧ W B' ((D, .lst acc) :: (A ++ L)) H ∧ Pv i B' A acc ∧ acc.length ≤ i) ⟨B, [], [], same_refl B, w.newL hD _, h0, Nat.le_refl _⟩
    (fun i H _ ⟨B', A, acc, s, w', _⟩ => hx B' A acc H s w') ?_ (fun H ⟨B', A, acc, s, w', p, l⟩ => hd B' A acc H s w' p l)
  rintro i x H hi ⟨B', A, acc, s, w', p, l⟩
  have hil := (List.getElem?_eq_some_iff.mp hi).1
  exact hs i x B' A acc H _ hi s w' p l (by omega) fun B'' A' acc' H' s' w'' p' l' => ⟨B'', A', acc', same_trans s s', w'', p', l'⟩
end
/-! ### slices, subscripts -/
def rPart (Q : Option Int → Hp → Prop) (x : V) (H : Hp) : Prop := ∃ i, x = .int i ∧ Q (some i) H
section
variable {K : PySem.W.Frag} {σ : L2.St} {H : Hp} {Q : VK} {te : TE} {tl th : TO}
theorem g_sl {r : V → Option Int → Option Int → Hp → VK → Prop} (h : te σ H fun x H1 => tl σ H1 fun l H2 => th σ H2 fun u H3 => r x l u H3 Q) : tSl r te tl th σ H Q := h
theorem g_nopart {Q : Option Int → Hp → Prop} (h : Q none H) : tNoPart σ H Q := h
theorem g_part {Q : Option Int → Hp → Prop} (h : te σ H (rPart Q)) : tPart te σ H Q := h
theorem r_part {Q : Option Int → Hp → Prop} {i : Int} (h : Q (some i) H) : rPart Q (.int i) H := ⟨i, rfl, h⟩
theorem r_slL {a : Addr} {xs : List V} {lo hi : Option Int} (h : SqL K H a xs) (q : ∀ p, H p = none → Q (.ref p) (upd H p (.lst (cutV xs lo hi)))) : rSlL K (.ref a) lo hi H Q := ⟨a, xs, rfl, h, q⟩
def cutI (ns : List Int) (lo hi : Option Int) : List Int := (ns.drop (HT.sIx ns.length 0 lo)).take (HT.sIx ns.length ns.length hi - HT.sIx ns.length 0 lo)
theorem cutV_int (ns : List Int) (lo hi : Option Int) : cutV (ns.map V.int) lo hi = (cutI ns lo hi).map V.int := by
  unfold cutV cutI
  rw [List.length_map, List.map_take, List.map_drop]
theorem cutI_len (ns : List Int) (lo hi : Option Int) : (cutI ns lo hi).length ≤ ns.length := by
  unfold cutI
  rw [List.length_take, List.length_drop]
  omega
theorem cutI_take (ns : List Int) (k : Nat) : cutI ns none (some (k : Int)) = ns.take k := by
  unfold cutI
  simp only [HT.sIx]
  rw [if_neg (by omega)]
  simp
theorem cutI_drop (ns : List Int) (k : Nat) : cutI ns (some (k : Int)) none = ns.drop k := by
  unfold cutI
  simp only [HT.sIx]
  rw [if_neg (by omega), Int.toNat_natCast]
  by_cases h : k ≤ ns.length
  · rw [Nat.min_eq_left h]
    exact List.take_of_length_le (by simp)
  · rw [List.drop_eq_nil_of_le (show ns.length ≤ k by omega)]
    simp
    omega
theorem r_ixL {a : Addr} {xs : List V} {i : Int} {v : V} (h : SqL K H a xs) (e : atI xs i = some v) (q : Q v H) : rIxL K (.ref a) (.int i) H Q := ⟨a, xs, i, v, rfl, rfl, h, e, q⟩
theorem r_ixT {a : Addr} {xs : List V} {i : Int} {v : V} (h : SqT K H a xs) (e : atI xs i = some v) (q : Q v H) : rIxT K (.ref a) (.int i) H Q := ⟨a, xs, i, v, rfl, rfl, h, e, q⟩
theorem r_t0 {a : Addr} {xs : List V} {v : V} (h : SqT K H a (v :: xs)) (q : Q v H) : rIxT K (.ref a) (.int 0) H Q := by
  refine ⟨a, v :: xs, 0, v, rfl, rfl, h, ?_, q⟩
  unfold atI ixN
  rw [if_pos (by decide), if_pos (by simp only [List.length_cons]; omega)]
  rfl
theorem r_t1 {a : Addr} {xs : List V} {u v : V} (h : SqT K H a (u :: v :: xs)) (q : Q v H) : rIxT K (.ref a) (.int 1) H Q := by
  refine ⟨a, u :: v :: xs, 1, v, rfl, rfl, h, ?_, q⟩
  unfold atI ixN
  rw [if_pos (by decide), if_pos (by simp only [List.length_cons]; omega)]
  rfl
theorem r_t2 {a : Addr} {xs : List V} {u z v : V} (h : SqT K H a (u :: z :: v :: xs)) (q : Q v H) : rIxT K (.ref a) (.int 2) H Q := by
  refine ⟨a, u :: z :: v :: xs, 2, v, rfl, rfl, h, ?_, q⟩
  unfold atI ixN
  rw [if_pos (by decide), if_pos (by simp only [List.length_cons]; omega)]
  rfl
theorem getV {ns : List Int} {i : Nat} {x : V} (h : (ns.map V.int)[i]? = some x) : ∃ n, x = .int n ∧ ns[i]? = some n ∧ i < ns.length := by
  rw [List.getElem?_map] at h
  cases e : ns[i]? with
  | none => rw [e] at h; cases h
  | some n => rw [e] at h; exact ⟨n, (Option.some.inj h).symm, rfl, (List.getElem?_eq_some_iff.mp e).1⟩
end
/-! ### promises by the number of arguments -/
def Sp0 (φ : Hp → VK → XK → Prop) : Sp := fun vs H Q E => vs = [] ∧ φ H Q E
def Sp1 (φ : V → Hp → VK → XK → Prop) : Sp := fun vs H Q E => ∃ x, vs = [x] ∧ φ x H Q E
def Sp2 (φ : V → V → Hp → VK → XK → Prop) : Sp := fun vs H Q E => ∃ x y, vs = [x, y] ∧ φ x y H Q E
def Sp3 (φ : V → V → V → Hp → VK → XK → Prop) : Sp := fun vs H Q E => ∃ x y z, vs = [x, y, z] ∧ φ x y z H Q E
def Sp4 (φ : V → V → V → V → Hp → VK → XK → Prop) : Sp := fun vs H Q E => ∃ x y z u, vs = [x, y, z, u] ∧ φ x y z u H Q E
def Sp5 (φ : V → V → V → V → V → Hp → VK → XK → Prop) : Sp := fun vs H Q E => ∃ x y z u v, vs = [x, y, z, u, v] ∧ φ x y z u v H Q E
section
variable {vs : List V} {H : Hp} {Q : VK} {E : XK}
theorem sp0_len {φ} (h : Sp0 φ vs H Q E) : vs.length = 0 := by obtain ⟨rfl, _⟩ := h; rfl
theorem sp1_len {φ} (h : Sp1 φ vs H Q E) : vs.length = 1 := by obtain ⟨x, rfl, _⟩ := h; rfl
theorem sp2_len {φ} (h : Sp2 φ vs H Q E) : vs.length = 2 := by obtain ⟨x, y, rfl, _⟩ := h; rfl
theorem sp3_len {φ} (h : Sp3 φ vs H Q E) : vs.length = 3 := by obtain ⟨x, y, z, rfl, _⟩ := h; rfl
theorem sp4_len {φ} (h : Sp4 φ vs H Q E) : vs.length = 4 := by obtain ⟨x, y, z, u, rfl, _⟩ := h; rfl
theorem sp5_len {φ} (h : Sp5 φ vs H Q E) : vs.length = 5 := by obtain ⟨x, y, z, u, v, rfl, _⟩ := h; rfl
end
/-- a law's own promise -/
def spEnd (K : PySem.W.Frag) : Sp := Sp1 fun x H Q E => ∃ (a : Addr) (ns : List Int), x = .ref a ∧ SqL K H a (ns.map V.int) ∧ ns.length ≤ 63 ∧ ∀ H', Q (.bl true) H'
section
variable {P : Program} {w : World} {K : PySem.W.Frag} {mg : Str → Option Value} {base : Heap} {N : List Str} {qual : Str} {scope : Scope} {f : Addr} {cd : Value} {A : Around} {outer : List Env} {s : Shared} {H : Hp} {E : XK}
theorem pX : Passes (L2.CX P w) (cxOf (L2.CX P w) P w K mg base N qual scope f cd A outer s H E) E := passes_call (takes_of rfl rfl rfl rfl) fun _ _ _ _ h => h
theorem cx_false {l : List Env} {e : Value} {s' : Shared} (h : L2.CX P w l H s (fun _ _ _ => False) e s') : False := by
  obtain ⟨_, _, _, _, _, _, _, _, _, _, _, _, z⟩ := h
  exact z
theorem passF {X : Cx} : Passes (L2.CX P w) X (fun _ _ _ => False) := fun _ _ _ _ _ _ _ h => (cx_false h).elim
end
/-! ### union of two ways -/
theorem pe_either {X : Cx} {e : Expr} {t u : TE} (h1 : PE X e t) (h2 : PE X e u) : PE X e (fun σ H Q => t σ H Q ∨ u σ H Q) :=
  ⟨fun pins s σ H Q I h => h.elim (h1.run pins s σ H Q I) (h2.run pins s σ H Q I)⟩
/-! ### len, str, fields, methods, new instances, dicts: by names -/
def rLen (K : PySem.W.Frag) : List V → Hp → VK → Prop := fun xs H Q => ∃ p ys, xs = [.ref p] ∧ (SqL K H p ys ∨ SqT K H p ys) ∧ Q (.int ys.length) H
theorem call_lenZ {X : Cx} : CallR X (.builtin "len") (rLen X.K) := call_len_seq
def rLenStr : List V → Hp → VK → Prop := fun xs H Q => ∃ z, xs = [.str z] ∧ z.length ≤ sizeLine ∧ Q (.int z.length) H
theorem call_lenS {X : Cx} : CallR X (.builtin "len") rLenStr := call_len_str
def rLenDi : List V → Hp → VK → Prop := fun xs H Q => ∃ a kvs, xs = [V.ref a] ∧ H a = some (.dK kvs) ∧ Q (.int kvs.length) H
theorem call_lenDi {X : Cx} : CallR X (.builtin "len") rLenDi := call_lenD
def rStrI : List V → Hp → VK → Prop := fun xs H Q => ∃ i, xs = [.int i] ∧ i.natAbs.log2 < 1920 ∧ Q (.str (toString i)) H
theorem call_strI {X : Cx} : CallR X (.type "str") rStrI := call_str_int
def rIsNo : R2 := fun x y H Q => y = .non ∧ Q (.bl (decide (x = .non))) H
def rNotNo : R2 := fun x y H Q => y = .non ∧ Q (.bl (!decide (x = .non))) H
theorem op_isNo {X : Cx} : OpR X (compareOp .Is) rIsNo := op_isN
theorem op_notNo {X : Cx} : OpR X (compareOp .IsNot) rNotNo := op_notN
def rAddS : R2 := fun x y H Q => ∃ i j, x = .str i ∧ y = .str j ∧ i.length + j.length ≤ sizeLine ∧ Q (.str (i ++ j)) H
theorem op_addS {X : Cx} : OpR X (binaryOp .Add) rAddS := op_add_str
def rListOf (K : PySem.W.Frag) : List V → Hp → VK → Prop := fun xs H Q => ∃ p ys, xs = [.ref p] ∧ (SqL K H p ys ∨ SqT K H p ys) ∧ ∀ l, H l = none → Q (.ref l) (upd H l (.lst ys))
theorem call_listOf {X : Cx} : CallR X (.type "list") (rListOf X.K) := call_list_of
def rFldN (K : PySem.W.Frag) (f : Str) (Q : VK) (x : V) (H1 : Hp) : Prop := ∃ a C dx fs v, x = .ref a ∧ H1 a = some (.ins C dx fs) ∧ Cls K C ∧ NoAttr K C f ∧ fs.lookup f = some v ∧ Q v H1
def rStF (K : PySem.W.Frag) (f : Str) (P : Hp → Prop) (y x : V) (H2 : Hp) : Prop := ∃ a C dx fs, x = .ref a ∧ H2 a = some (.ins C dx fs) ∧ Cls K C ∧ NoAttr K C f ∧ fs.length < 1000 ∧ P (upd H2 a (.ins C dx (putF f y fs)))
def rMe (C : Addr) (m : Str) (P : Prop) (x : V) (H1 : Hp) : Prop := ∃ a dx fs, x = .ref a ∧ H1 a = some (.ins C dx fs) ∧ fs.lookup m = none ∧ P
def rMk (C : Addr) (sp : Sp) (dvs : List V) (E : XK) (Q : VK) (vs : List V) (H1 : Hp) : Prop := ∀ x dx, H1 x = none → H1 dx = none → dx ≠ x → sp (.ref x :: (vs ++ dvs)) (upd (upd H1 dx (.own x)) x (.ins C dx [])) (fun v H2 => v = .non ∧ Q (.ref x) H2) E
def rDIn (Q : VK) (y x : V) (H2 : Hp) : Prop := ∃ a o, x = .ref a ∧ DGet H2 a y o ∧ Q (.bl o.isSome) H2
def rDNi (Q : VK) (y x : V) (H2 : Hp) : Prop := ∃ a o, x = .ref a ∧ DGet H2 a y o ∧ Q (.bl (!o.isSome)) H2
def rDGe (Q : VK) (x y : V) (H2 : Hp) : Prop := ∃ a v, x = .ref a ∧ DGet H2 a y (some v) ∧ Q v H2
def rDPu (P : Hp → Prop) (v x y : V) (H3 : Hp) : Prop := ∃ a H4, x = .ref a ∧ DPut H3 a y v H4 ∧ P H4
def rDPo (Q : VK) (x y : V) (H2 : Hp) : Prop := ∃ kvs k v, ∃ a, x = .ref a ∧ H2 a = some (.dK kvs) ∧ y = kV k ∧ valV kvs k = some v ∧ Q v (upd H2 a (.dK (dropK kvs k)))
section
variable {K : PySem.W.Frag} {σ : L2.St} {H : Hp} {Q : VK} {ta tb tv td ty : TE} {t : TA} {D : Ends} {f m : Str} {a p C dx : Addr} {fs : List (Str × V)} {v x y : V} {xs : List V} {sp : Sp} {dvs : List V} {E : XK} {P : Hp → Prop} {R : Prop} {i : Int} {z u : Str} {kvs : List (Key × V)} {n : Int}
theorem r_lenL (h : SqL K H p xs) (q : Q (.int xs.length) H) : rLen K [.ref p] H Q := ⟨p, xs, rfl, .inl h, q⟩
theorem r_lenT (h : SqT K H p xs) (q : Q (.int xs.length) H) : rLen K [.ref p] H Q := ⟨p, xs, rfl, .inr h, q⟩
theorem r_lenS (h : z.length ≤ sizeLine) (q : Q (.int z.length) H) : rLenStr [.str z] H Q := ⟨z, rfl, h, q⟩
theorem r_lenD (h : H p = some (.dK kvs)) (q : Q (.int kvs.length) H) : rLenDi [.ref p] H Q := ⟨p, kvs, rfl, h, q⟩
theorem r_strI (h : i.natAbs.log2 < 1920) (q : Q (.str (toString i)) H) : rStrI [.int i] H Q := ⟨i, rfl, h, q⟩
theorem r_isNo (q : Q (.bl (decide (x = .non))) H) : rIsNo x .non H Q := ⟨rfl, q⟩
theorem r_notNo (q : Q (.bl (!decide (x = .non))) H) : rNotNo x .non H Q := ⟨rfl, q⟩
theorem r_addS (h : z.length + u.length ≤ sizeLine) (q : Q (.str (z ++ u)) H) : rAddS (.str z) (.str u) H Q := ⟨z, u, rfl, rfl, h, q⟩
theorem r_listOf {B : Hp} {L : List Cell} (h : SqL K H p xs) (w : W B L H) (q : ∀ l H', W B ((l, .lst xs) :: L) H' → Q (.ref l) H') : rListOf K [.ref p] H Q := ⟨p, xs, rfl, .inl h, fun l hl => q l _ (w.newL hl _)⟩
theorem g_fld (h : ta σ H (rFldN K f Q)) : tFld K ta f σ H Q := h
theorem r_fld (h : H a = some (.ins C dx fs)) (c : Cls K C) (no : NoAttr K C f) (l : fs.lookup f = some v) (q : Q v H) : rFldN K f Q (.ref a) H := ⟨a, C, dx, fs, v, rfl, h, c, no, l, q⟩
theorem g_sfld (h : tv σ H fun y H1 => ta σ H1 (rStF K f (D.nx σ) y)) : sFld K ta tv f D σ H := h
theorem r_sfld (h : H a = some (.ins C dx fs)) (c : Cls K C) (no : NoAttr K C f) (l : fs.length < 1000) (q : P (upd H a (.ins C dx (putF f y fs)))) : rStF K f P y (.ref a) H := ⟨a, C, dx, fs, rfl, h, c, no, l, q⟩
theorem g_meth (h : ta σ H fun x H1 => rMe C m (t σ H1 fun vs H2 => sp (x :: (vs ++ dvs)) H2 Q E) x H1) : tMeth C m sp dvs E ta t σ H Q := h
theorem r_meth (h : H a = some (.ins C dx fs)) (l : fs.lookup m = none) (q : R) : rMe C m R (.ref a) H := ⟨a, dx, fs, rfl, h, l, q⟩
theorem g_make (h : t σ H (rMk C sp dvs E Q)) : tMake C sp dvs E t σ H Q := h
theorem g_din (h : ty σ H fun y H1 => td σ H1 (rDIn Q y)) : tDIn ty td σ H Q := h
theorem g_dni (h : ty σ H fun y H1 => td σ H1 (rDNi Q y)) : tDNotIn ty td σ H Q := h
theorem g_dge (h : td σ H fun x H1 => ty σ H1 (rDGe Q x)) : tDGet td ty σ H Q := h
theorem g_dpu (h : tv σ H fun v H1 => td σ H1 fun x H2 => ty σ H2 (rDPu (D.nx σ) v x)) : sDPut td ty tv D σ H := h
theorem r_din (h : H a = some (.dK kvs)) (q : Q (.bl (valV kvs (Sum.inl n)).isSome) H) : rDIn Q (.int n) (.ref a) H := ⟨a, _, rfl, DGet.k (k := Sum.inl n) h, q⟩
theorem r_dni (h : H a = some (.dK kvs)) (q : Q (.bl (!(valV kvs (Sum.inl n)).isSome)) H) : rDNi Q (.int n) (.ref a) H := ⟨a, _, rfl, DGet.k (k := Sum.inl n) h, q⟩
theorem r_dge (h : H a = some (.dK kvs)) (e : valV kvs (Sum.inl n) = some v) (q : Q v H) : rDGe Q (.ref a) (.int n) H := ⟨a, v, rfl, by have := DGet.k (k := Sum.inl n) h; rw [e] at this; exact this, q⟩
theorem r_dpu (h : H a = some (.dK kvs)) (l : kvs.length < sizeLine) (q : P (upd H a (.dK (putK kvs (Sum.inl n) v)))) : rDPu P v (.ref a) (.int n) H := ⟨a, _, rfl, DPut.k (k := Sum.inl n) h l, q⟩
end
/-! ### a list of numbers, by its place -/
theorem atI_nat' {xs : List V} {i : Int} (h0 : 0 ≤ i) (h1 : i < xs.length) : atI xs i = xs[i.toNat]? := by
  unfold atI ixN
  rw [if_pos h0, if_pos h1]
  rfl
theorem atI_ex {ns : List Int} {i : Int} (h0 : 0 ≤ i) (h1 : i < ns.length) : ∃ v, v ∈ ns ∧ atI (ns.map V.int) i = some (.int v) := by
  have hl : i.toNat < ns.length := by omega
  refine ⟨ns[i.toNat], List.getElem_mem _, ?_⟩
  rw [atI_nat' h0 (by rw [List.length_map]; exact h1), List.getElem?_map, List.getElem?_eq_getElem hl]
  rfl
section
variable {K : PySem.W.Frag} {H : Hp} {σ : L2.St} {a : Addr} {u v x : V} {n : Nat} {t1 t2 t3 : TG} {Q : L2.St → Hp → Prop}
theorem g_tup2 (h : SqT K H a [u, v]) (hn : n = 2) (q : t1 u σ H fun σ' H' => t2 v σ' H' Q) : gTup K n (gCons t1 (gCons t2 gNil)) (.ref a) σ H Q :=
  ⟨a, _, rfl, h, hn.symm, u, _, rfl, (show t1 u σ H fun σ' H' => gCons t2 gNil [v] σ' H' Q from by
    have e : (fun σ' H' => gCons t2 gNil [v] σ' H' Q) = fun σ' H' => t2 v σ' H' Q := by
      funext σ' H'
      refine propext ⟨fun ⟨v', r, e, h⟩ => ?_, fun h => ⟨v, [], rfl, ?_⟩⟩
      · cases e
        have e2 : (fun σ' H' => gNil [] σ' H' Q) = Q := by funext a b; exact propext ⟨fun h => h.2, fun h => ⟨rfl, h⟩⟩
        rwa [e2] at h
      · have e2 : (fun σ' H' => gNil [] σ' H' Q) = Q := by funext a b; exact propext ⟨fun h => h.2, fun h => ⟨rfl, h⟩⟩
        rwa [e2]
    rw [e]
    exact q)⟩
end
section
variable {c : TT} {tb : TS} {D : Ends} {σ : L2.St} {H : Hp} {m : Nat}
def WhB (Pv : Nat → L2.St → Hp → Prop) (m : Nat) (tb : TS) (D : Ends) (σ : L2.St) (H1 : Hp) : Prop := ∃ N : L2.St → Hp → Prop, (∀ σ' H', N σ' H' → ∃ m', m' < m ∧ Pv m' σ' H') ∧ tb { D with nx := N, ct := N, bk := D.nx } σ H1
theorem g_while (m : Nat) (Pv : Nat → L2.St → Hp → Prop) (h0 : Pv m σ H) (hs : ∀ m σ H, Pv m σ H → c σ H fun b H1 => Br b (WhB Pv m tb D σ H1) (D.nx σ H1)) : tWhile c tb D σ H := ⟨Pv, ⟨m, h0⟩, hs⟩
theorem g_whb {Pv : Nat → L2.St → Hp → Prop} (h : tb { D with nx := fun σ' H' => ∃ m', m' < m ∧ Pv m' σ' H', ct := fun σ' H' => ∃ m', m' < m ∧ Pv m' σ' H', bk := D.nx } σ H) : WhB Pv m tb D σ H := ⟨_, fun _ _ h => h, h⟩
end
/-! ### == of data -/
theorem eqvAll_ints : ∀ ns ms : List Int, PyData.eqvAll (ns.map PyData.int) (ms.map PyData.int) = decide (ns = ms)
  | [], [] => by simp [PyData.eqvAll]
  | [], _ :: _ => by simp [PyData.eqvAll]
  | _ :: _, [] => by simp [PyData.eqvAll]
  | a :: r, b :: t => by
    simp only [List.map_cons, PyData.eqvAll, PyData.eqv, eqvAll_ints r t]
    by_cases h : a = b <;> by_cases h' : r = t <;> simp [h, h']
theorem canAll_ints : ∀ ns : List Int, PyData.canLayAll0 (ns.map PyData.int) = true
  | [] => by simp [PyData.canLayAll0]
  | _ :: r => by simp [PyData.canLayAll0, PyData.canLay0, canAll_ints r]
theorem depAll_ints : ∀ ns : List Int, PyData.depthAll (ns.map PyData.int) = 0
  | [] => by simp [PyData.depthAll]
  | _ :: r => by simp [PyData.depthAll, PyData.depth, depAll_ints r]
theorem sh_lints (ns : List Int) : SeqAt.shaped (.list (ns.map PyData.int)) = true := by simp [SeqAt.shaped, PyData.canLay0, PyData.depth, canAll_ints, depAll_ints]
theorem sh_tints (ns : List Int) : SeqAt.shaped (.tuple (ns.map PyData.int)) = true := by simp [SeqAt.shaped, PyData.canLay0, PyData.depth, canAll_ints, depAll_ints]
section
variable {K : PySem.W.Frag} {H : Hp} {Q : VK} {a b : Addr} {ns ms : List Int} {x y : V} {d : PyData}
theorem dp_ints : ∀ ns : List Int, DpAll K H (ns.map V.int) (ns.map PyData.int)
  | [] => .nil
  | _ :: r => .cons (.int _) (dp_ints r)
theorem eqv_self (h : SeqAt.shaped d = true) : PyData.eqv d d = true := SeqAt.eqv_refl d (SeqAt.canLay_of_shaped h)
theorem r_eqD (h1 : Dp K H x d) (h2 : Dp K H y d) (sh : SeqAt.shaped d = true) (q : Q (.bl true) H) : rEqD K x y H Q := ⟨d, d, h1, h2, sh, sh, by rw [eqv_self sh]; exact q⟩
theorem r_neD (h1 : Dp K H x d) (h2 : Dp K H y d) (sh : SeqAt.shaped d = true) (q : Q (.bl false) H) : rNeD K x y H Q := ⟨d, d, h1, h2, sh, sh, by rw [eqv_self sh]; exact q⟩
theorem r_eqLI (h1 : SqL K H a (ns.map V.int)) (h2 : SqL K H b (ms.map V.int)) (q : Q (.bl (decide (ns = ms))) H) : rEqD K (.ref a) (.ref b) H Q :=
  ⟨_, _, .lst h1 (dp_ints ns), .lst h2 (dp_ints ms), sh_lints ns, sh_lints ms, by rw [PyData.eqv, eqvAll_ints]; exact q⟩
theorem r_neLI (h1 : SqL K H a (ns.map V.int)) (h2 : SqL K H b (ms.map V.int)) (q : Q (.bl (!decide (ns = ms))) H) : rNeD K (.ref a) (.ref b) H Q :=
  ⟨_, _, .lst h1 (dp_ints ns), .lst h2 (dp_ints ms), sh_lints ns, sh_lints ms, by rw [PyData.eqv, eqvAll_ints]; exact q⟩
theorem r_eqTI (h1 : SqT K H a (ns.map V.int)) (h2 : SqT K H b (ms.map V.int)) (q : Q (.bl (decide (ns = ms))) H) : rEqD K (.ref a) (.ref b) H Q :=
  ⟨_, _, .tup h1 (dp_ints ns), .tup h2 (dp_ints ms), sh_tints ns, sh_tints ms, by rw [PyData.eqv, eqvAll_ints]; exact q⟩
theorem r_neTI (h1 : SqT K H a (ns.map V.int)) (h2 : SqT K H b (ms.map V.int)) (q : Q (.bl (!decide (ns = ms))) H) : rNeD K (.ref a) (.ref b) H Q :=
  ⟨_, _, .tup h1 (dp_ints ns), .tup h2 (dp_ints ms), sh_tints ns, sh_tints ms, by rw [PyData.eqv, eqvAll_ints]; exact q⟩
theorem r_eqDI (h1 : Dp K H x d) (sh : SeqAt.shaped d = true) (n : Int) (q : Q (.bl (PyData.eqv d (.int n))) H) : rEqD K x (.int n) H Q := ⟨d, _, h1, .int n, sh, rfl, q⟩
end
/-! ### isinstance -/
theorem kb_int_int : kitB "int" "int" = some true := by decide +kernel
theorem kb_int_bool : kitB "int" "bool" = some false := by decide +kernel
theorem kb_int_str : kitB "int" "str" = some false := by decide +kernel
theorem kb_int_tuple : kitB "int" "tuple" = some false := by decide +kernel
theorem kb_int_list : kitB "int" "list" = some false := by decide +kernel
theorem kb_bool_int : kitB "bool" "int" = some true := by decide +kernel
theorem kb_bool_bool : kitB "bool" "bool" = some true := by decide +kernel
theorem kb_bool_str : kitB "bool" "str" = some false := by decide +kernel
theorem kb_non_int : kitB "NoneType" "int" = some false := by decide +kernel
theorem kb_non_bool : kitB "NoneType" "bool" = some false := by decide +kernel
theorem kb_non_str : kitB "NoneType" "str" = some false := by decide +kernel
theorem kb_str_int : kitB "str" "int" = some false := by decide +kernel
theorem kb_str_bool : kitB "str" "bool" = some false := by decide +kernel
theorem kb_str_str : kitB "str" "str" = some true := by decide +kernel
theorem kb_tup_int : kitB "tuple" "int" = some false := by decide +kernel
theorem kb_tup_bool : kitB "tuple" "bool" = some false := by decide +kernel
theorem kb_tup_str : kitB "tuple" "str" = some false := by decide +kernel
theorem kb_tup_tup : kitB "tuple" "tuple" = some true := by decide +kernel
theorem kb_tup_list : kitB "tuple" "list" = some false := by decide +kernel
theorem kb_list_int : kitB "list" "int" = some false := by decide +kernel
theorem kb_list_bool : kitB "list" "bool" = some false := by decide +kernel
theorem kb_list_str : kitB "list" "str" = some false := by decide +kernel
theorem kb_list_list : kitB "list" "list" = some true := by decide +kernel
theorem kb_list_tup : kitB "list" "tuple" = some false := by decide +kernel
theorem kb_dict_int : kitB "dict" "int" = some false := by decide +kernel
theorem kb_dict_bool : kitB "dict" "bool" = some false := by decide +kernel
section
variable {K : PySem.W.Frag} {H : Hp} {Q : VK} {x : V} {t n : String} {b : Bool} {i : Int} {z : Str}
theorem r_isi (ty : TyX K H x (.type t)) (h : kitB t n = some b) (q : Q (.bl b) H) : rIsi K [x, .ty n] H Q := ⟨x, .ty n, .type t, .type n, b, rfl, .ty n, ty, kit_ty h, q⟩
theorem isi_ii (q : Q (.bl true) H) : rIsi K [.int i, .ty "int"] H Q := r_isi (.base (.int i)) kb_int_int q
theorem isi_ib (q : Q (.bl false) H) : rIsi K [.int i, .ty "bool"] H Q := r_isi (.base (.int i)) kb_int_bool q
theorem isi_bi (q : Q (.bl true) H) : rIsi K [.bl b, .ty "int"] H Q := r_isi (.base (.bl b)) kb_bool_int q
theorem isi_bb (q : Q (.bl true) H) : rIsi K [.bl b, .ty "bool"] H Q := r_isi (.base (.bl b)) kb_bool_bool q
theorem isi_ni (q : Q (.bl false) H) : rIsi K [.non, .ty "int"] H Q := r_isi (.base .non) kb_non_int q
theorem isi_si (q : Q (.bl false) H) : rIsi K [.str z, .ty "int"] H Q := r_isi (.base (.str z)) kb_str_int q
end
/-! ### names of built-ins -/
theorem bt_len : bootBuiltins "len" = some (.builtin "len") := by decide +kernel
theorem bt_isinstance : bootBuiltins "isinstance" = some (.builtin "isinstance") := by decide +kernel
theorem bt_int : bootBuiltins "int" = some (.type "int") := by decide +kernel
theorem bt_bool : bootBuiltins "bool" = some (.type "bool") := by decide +kernel
theorem bt_str : bootBuiltins "str" = some (.type "str") := by decide +kernel
theorem bt_list : bootBuiltins "list" = some (.type "list") := by decide +kernel
theorem bt_tuple : bootBuiltins "tuple" = some (.type "tuple") := by decide +kernel
theorem bt_dict : bootBuiltins "dict" = some (.type "dict") := by decide +kernel
theorem bt_min : bootBuiltins "min" = some (.builtin "min") := by decide +kernel
theorem bt_max : bootBuiltins "max" = some (.builtin "max") := by decide +kernel
theorem bt_sum : bootBuiltins "sum" = some (.builtin "sum") := by decide +kernel
theorem bt_all : bootBuiltins "all" = some (.builtin "all") := by decide +kernel
theorem bt_any : bootBuiltins "any" = some (.builtin "any") := by decide +kernel
theorem bt_sorted : bootBuiltins "sorted" = some (.builtin "sorted") := by decide +kernel
theorem bt_ValueError : bootBuiltins "ValueError" = some (.type "ValueError") := by decide +kernel
/-- a number, or None -/
def oV : Option Int → V
  | none => .non
  | some n => .int n
end Z

/-! Mbits: the bits of a number the other way round, in plain Lean. -/
namespace Z
open PySem PySem.W PyProof.Rows
/-- the k lowest bits of n, turned about -/
def rv : Nat → Nat → Nat
  | 0, _ => 0
  | k + 1, n => 2 * rv k n + n / 2 ^ k % 2
theorem rv_lt (k n : Nat) : rv k n < 2 ^ k := by
  induction k with
  | zero => simp [rv]
  | succ k ih => simp only [rv, Nat.pow_succ]; omega
theorem pow_pos2 (k : Nat) : 0 < 2 ^ k := Nat.pow_pos (by decide)
theorem rv_add (j k n : Nat) : rv (j + k) n = rv j n * 2 ^ k + rv k (n / 2 ^ j) := by
  induction k with
  | zero => simp [rv]
  | succ k ih =>
    have e : n / 2 ^ (j + k) = n / 2 ^ j / 2 ^ k := by rw [Nat.div_div_eq_div_mul, ← Nat.pow_add]
    show 2 * rv (j + k) n + n / 2 ^ (j + k) % 2 = _
    rw [ih, e, Nat.pow_succ]
    show _ = rv j n * (2 ^ k * 2) + (2 * rv k (n / 2 ^ j) + n / 2 ^ j / 2 ^ k % 2)
    rw [Nat.mul_add, ← Nat.mul_assoc (rv j n), Nat.mul_comm (rv j n * 2 ^ k) 2, Nat.mul_comm 2 (rv j n * 2 ^ k)]
    omega
theorem rv_one (n : Nat) : rv 1 n = n % 2 := by simp [rv]
theorem rv_succ (k n : Nat) : rv (k + 1) n = (n % 2) * 2 ^ k + rv k (n / 2) := by
  rw [Nat.add_comm k 1, rv_add, rv_one, Nat.pow_one]
theorem rv_zero (k : Nat) : rv k 0 = 0 := by
  induction k with
  | zero => rfl
  | succ k ih => simp [rv, ih]
theorem rv_congr {k a b : Nat} (h : a % 2 ^ k = b % 2 ^ k) : rv k a = rv k b := by
  induction k generalizing a b with
  | zero => rfl
  | succ k ih =>
    rw [rv_succ, rv_succ]
    have h2 : a % 2 = b % 2 := by
      have := congrArg (· % 2) h
      simp only [Nat.pow_succ, Nat.mod_mul_left_mod] at this
      exact this
    have h3 : a / 2 % 2 ^ k = b / 2 % 2 ^ k := by
      have q : ∀ x : Nat, x % 2 ^ (k + 1) / 2 = x / 2 % 2 ^ k := fun x => by
        rw [Nat.pow_succ, Nat.mul_comm, Nat.mod_mul_right_div_self]
      rw [← q a, ← q b, h]
    rw [h2, ih h3]
theorem rv_mod (k n : Nat) : rv k (n % 2 ^ k) = rv k n := rv_congr (Nat.mod_mod _ _)
theorem rv_rv (k n : Nat) : rv k (rv k n) = n % 2 ^ k := by
  induction k generalizing n with
  | zero => simp [rv, Nat.mod_one]
  | succ k ih =>
    have e : rv (k + 1) n = 2 * rv k n + n / 2 ^ k % 2 := rfl
    rw [rv_succ, e]
    have e1 : (2 * rv k n + n / 2 ^ k % 2) % 2 = n / 2 ^ k % 2 := by omega
    have e2 : (2 * rv k n + n / 2 ^ k % 2) / 2 = rv k n := by omega
    rw [e1, e2, ih, Nat.pow_succ, Nat.mod_mul]
    rw [Nat.mul_comm, Nat.add_comm]
theorem rv_bit {k d : Nat} (n : Nat) (h : d < k) : rv k n / 2 ^ (k - 1 - d) % 2 = n / 2 ^ d % 2 := by
  have e : k = (d + 1) + (k - 1 - d) := by omega
  have q : rv k n = rv (d + 1) n * 2 ^ (k - 1 - d) + rv (k - 1 - d) (n / 2 ^ (d + 1)) := by
    conv => lhs; rw [e]
    exact rv_add _ _ _
  have l := rv_lt (k - 1 - d) (n / 2 ^ (d + 1))
  rw [q, Nat.mul_comm, Nat.mul_add_div (pow_pos2 _), Nat.div_eq_of_lt l, Nat.add_zero]
  show (2 * rv d n + n / 2 ^ d % 2) % 2 = _
  omega
theorem rv_inj {k a b : Nat} (h : rv k a = rv k b) : a % 2 ^ k = b % 2 ^ k := by rw [← rv_rv, ← rv_rv, h]
/-- sixteen bits turned about -/
@[irreducible] def r16 (n : Nat) : Nat := rv 16 n
theorem r16_eq (n : Nat) : r16 n = rv 16 n := by unfold r16; rfl
theorem r16_lt (n : Nat) : r16 n < 65536 := by rw [r16_eq]; exact rv_lt 16 n
theorem r16_r16 (n : Nat) : r16 (r16 n) = n % 65536 := by rw [r16_eq, r16_eq]; exact rv_rv 16 n
/-! by the program's own operators -/
theorem bor_even (a : Int) {b : Int} (h0 : 0 ≤ b) (h1 : b ≤ 1) : Builtin.bitOr (a * 2) b = a * 2 + b := by
  have e : Builtin.bitAnd (a * 2) b = 0 := by
    rw [kbt_halves]
    have e1 : a * 2 % 2 = 0 := by omega
    have e2 : b / 2 = 0 := by omega
    rw [e1, e2]
    have e3 : Builtin.bitAnd (a * 2 / 2) 0 = 0 := by
      have := kbt_mask (a * 2 / 2) 0
      simpa using this
    rw [e3]
    simp
  have x := bitXor_and (a * 2) b
  unfold Builtin.bitXor at x
  rw [e] at x
  omega
def tnI (n : Int) : Nat → Int
  | 0 => 0
  | k + 1 => Builtin.bitOr (tnI n k * 2 ^ (1 : Int).toNat) (Builtin.bitAnd (n / 2 ^ ((0 : Int) + (k : Nat)).toNat) 1)
theorem tnI_eq (n k : Nat) : tnI (n : Int) k = (rv k n : Nat) := by
  induction k with
  | zero => rfl
  | succ k ih =>
    show Builtin.bitOr (tnI n k * 2 ^ (1 : Int).toNat) (Builtin.bitAnd ((n : Int) / 2 ^ ((0 : Int) + (k : Nat)).toNat) 1) = ((2 * rv k n + n / 2 ^ k % 2 : Nat) : Int)
    have e1 : ((0 : Int) + (k : Nat)).toNat = k := by omega
    have e2 : (1 : Int).toNat = 1 := rfl
    rw [bitAnd_m1, e1, e2, ih, Int.pow_succ, Int.pow_zero, Int.one_mul, bor_even _ (by omega) (by omega)]
    have e3 : (n : Int) / 2 ^ k = ((n / 2 ^ k : Nat) : Int) := by simp
    rw [e3]
    omega
theorem tnI_small (n : Nat) {k : Nat} (h : k ≤ 16) : (tnI (n : Int) k).natAbs < 2 ^ 64 := by
  rw [tnI_eq, Int.natAbs_natCast]
  exact Nat.lt_of_lt_of_le (rv_lt k n) (Nat.pow_le_pow_right (by decide) (by omega))
end Z
namespace Z
open PySem PySem.W PyProof.Rows
theorem r16_mod (k : Nat) : r16 (k % 65536) = r16 k := by
  rw [r16_eq, r16_eq]
  exact rv_mod 16 k
theorem and_pow (k s : Nat) : Builtin.bitAnd (k : Int) (((2 ^ s : Nat) : Int) - 1) = ((k % 2 ^ s : Nat) : Int) := by
  have h := kbt_mask (k : Int) s
  have e : ((2 ^ s : Nat) : Int) = (2 : Int) ^ s := by simp
  rw [e, h, ← e]
  simp
theorem and_mark (k : Nat) : Builtin.bitAnd (k : Int) (65536 - 1) = ((k % 65536 : Nat) : Int) := and_pow k 16
theorem pow_dvd16 {s : Nat} (h : s ≤ 16) : 2 ^ s ∣ 65536 := (Nat.pow_dvd_pow_iff_le_right (by decide : 1 < 2)).mpr h
theorem pow_mul16 {s : Nat} (h : s ≤ 16) : 2 ^ s * 2 ^ (16 - s) = 65536 := by
  rw [← Nat.pow_add, Nat.add_sub_cancel' h]
theorem mod16 {s : Nat} (k : Nat) (h : s ≤ 16) : k % 65536 % 2 ^ s = k % 2 ^ s := Nat.mod_mod_of_dvd k (pow_dvd16 h)
theorem div16 {s : Nat} (h : s ≤ 16) : 65536 / 2 ^ s = 2 ^ (16 - s) := by
  rw [← pow_mul16 h]
  exact Nat.mul_div_cancel_left _ (pow_pos2 s)
theorem pow_le16 {s : Nat} (h : s ≤ 16) : 2 ^ s ≤ 65536 := Nat.le_of_dvd (by decide) (pow_dvd16 h)
/-- a place: its block, and where in it -/
theorem r16_split {s : Nat} (k : Nat) (h : s ≤ 16) : r16 k = rv s k * 2 ^ (16 - s) + rv (16 - s) (k / 2 ^ s) := by
  rw [r16_eq]
  have := rv_add s (16 - s) k
  rwa [Nat.add_sub_cancel' h] at this
theorem r16_slot {s n : Nat} (h : s ≤ 16) (hn : n < 2 ^ s) : r16 n = rv s n * 2 ^ (16 - s) := by
  rw [r16_split n h, Nat.div_eq_of_lt hn, rv_zero, Nat.add_zero]
theorem r16_div {s : Nat} (k : Nat) (h : s ≤ 16) : r16 k / 2 ^ (16 - s) = rv s k := by
  rw [r16_split k h, Nat.mul_comm, Nat.mul_add_div (pow_pos2 _), Nat.div_eq_of_lt (rv_lt _ _), Nat.add_zero]
theorem slotAt_eq {s : Nat} (p : Nat) (h : s ≤ 16) : r16 p % 2 ^ s = rv s (p / 2 ^ (16 - s)) := by
  have e := rv_add (16 - s) s p
  rw [Nat.sub_add_cancel h] at e
  rw [r16_eq, e, Nat.mul_comm, Nat.mul_add_mod, Nat.mod_eq_of_lt (rv_lt _ _)]
/-- the place lies in the stretch of just that slot -/
theorem in_stretch {s n : Nat} (k : Nat) (h : s ≤ 16) (hn : n < 2 ^ s) : (r16 n ≤ r16 k ∧ r16 k < r16 n + 2 ^ (16 - s)) ↔ k % 2 ^ s = n := by
  have e1 := r16_split k h
  have e2 := r16_slot h hn
  have l := rv_lt (16 - s) (k / 2 ^ s)
  constructor
  · rintro ⟨h1, h2⟩
    have q : rv s k = rv s n := by
      have d := r16_div k h
      rw [← d]
      apply Nat.div_eq_of_lt_le
      · rw [← e2]; exact h1
      · rw [Nat.succ_mul, ← e2]; exact h2
    have := rv_inj q
    rwa [Nat.mod_eq_of_lt hn] at this
  · intro e
    have q : rv s k = rv s n := by rw [← e, rv_mod]
    rw [e1, e2, q]
    omega
theorem at_stretch {s n p : Nat} (h : s ≤ 16) (hn : n < 2 ^ s) (h1 : r16 n ≤ p) (h2 : p < r16 n + 2 ^ (16 - s)) : r16 p % 2 ^ s = n := by
  have e2 := r16_slot h hn
  have q : p / 2 ^ (16 - s) = rv s n := by
    apply Nat.div_eq_of_lt_le
    · rw [← e2]; exact h1
    · rw [Nat.succ_mul, ← e2]; exact h2
  rw [slotAt_eq p h, q, rv_rv, Nat.mod_eq_of_lt hn]
theorem stretch_end {s n : Nat} (h : s ≤ 16) (hn : n < 2 ^ s) : r16 n + 2 ^ (16 - s) ≤ 65536 := by
  rw [r16_slot h hn, ← pow_mul16 h]
  have := rv_lt s n
  calc rv s n * 2 ^ (16 - s) + 2 ^ (16 - s) = (rv s n + 1) * 2 ^ (16 - s) := by rw [Nat.succ_mul]
    _ ≤ 2 ^ s * 2 ^ (16 - s) := Nat.mul_le_mul_right _ this
theorem r16_inj {a b : Nat} (h : r16 a = r16 b) : a % 65536 = b % 65536 := by
  rw [r16_eq, r16_eq] at h
  exact rv_inj h
end Z
namespace Z
open PySem PySem.W PyProof.Rows
theorem and_half (b : Nat) : ∀ a : Int, 0 < b → (b : Int) ≠ 2 * Builtin.bitAnd a b := by
  induction b using Nat.strongRecOn with
  | _ b ih =>
    intro a hb e
    have hh := kbt_halves a b
    by_cases o : b % 2 = 1
    · omega
    · have e2 : ((b : Int) / 2) = ((b / 2 : Nat) : Int) := by omega
      rw [if_neg (by omega), e2] at hh
      exact ih (b / 2) (by omega) (a / 2) (by omega) (by omega)
theorem xor_other {a b : Nat} (h0 : 0 < b) (h1 : b < 65536) : ∃ m : Nat, Builtin.bitXor (a : Int) (b : Int) = (m : Int) ∧ m % 65536 ≠ a % 65536 := by
  have x := bitXor_and (a : Int) (b : Int)
  have r1 := bitAnd_range (a : Int) (y := (b : Int)) (by omega)
  have r2 := bitAnd_range (b : Int) (y := (a : Int)) (by omega)
  rw [bitAnd_comm] at r2
  have n := and_half b (a : Int) h0
  refine ⟨(Builtin.bitXor (a : Int) (b : Int)).toNat, by omega, fun h => ?_⟩
  omega
end Z
namespace Z
open PySem PySem.W PyProof.Rows
theorem pow4 (d : Nat) : (4 : Int) * 2 ^ d = ((2 ^ (d + 2) : Nat) : Int) := by
  rw [Nat.pow_add, Nat.mul_comm]; simp
theorem st_e {n s : Nat} (hs : s ≤ 16) : ((r16 n : Nat) : Int) + 65536 / ((2 ^ s : Nat) : Int) = ((r16 n + 2 ^ (16 - s) : Nat) : Int) := by
  rw [← div16 hs, Int.natCast_add, Int.natCast_ediv]; simp
theorem rv_one1 (k : Nat) : rv (k + 1) 1 = 2 ^ k := by
  rw [rv_succ]
  show 1 % 2 * 2 ^ k + rv k 0 = _
  rw [rv_zero]
  omega
theorem half_second {s n : Nat} (hs : s ≤ 15) (hn : n < 2 ^ s) : r16 (n + 2 ^ s) = r16 n + 2 ^ (16 - (s + 1)) := by
  have h : s ≤ 16 := by omega
  have e1 := r16_split (n + 2 ^ s) h
  have e2 := r16_slot h hn
  have e3 : rv s (n + 2 ^ s) = rv s n := rv_congr (Nat.add_mod_right _ _)
  have e4 : (n + 2 ^ s) / 2 ^ s = 1 := by rw [Nat.add_div_right _ (pow_pos2 s), Nat.div_eq_of_lt hn]
  have e5 : 16 - s = 16 - (s + 1) + 1 := by omega
  rw [e1, e2, e3, e4]
  congr 1
  rw [e5]
  exact rv_one1 _
theorem half_pow {s : Nat} (hs : s ≤ 15) : 2 ^ (16 - s) = 2 ^ (16 - (s + 1)) + 2 ^ (16 - (s + 1)) := by
  have e5 : 16 - s = 16 - (s + 1) + 1 := by omega
  rw [e5, Nat.pow_succ]
  omega
theorem pow_two2 (s : Nat) : (2 : Int) * ((2 ^ s : Nat) : Int) = ((2 ^ (s + 1) : Nat) : Int) := by
  rw [Nat.pow_succ]; omega
theorem rv_perm (s : Nat) : ((List.range (2 ^ s)).map (rv s)).Perm (List.range (2 ^ s)) := by
  have n1 : ((List.range (2 ^ s)).map (rv s)).Nodup := by
    refine List.pairwise_map.mpr (List.Pairwise.imp_of_mem ?_ List.nodup_range)
    intro a b ha hb hne h
    have := rv_inj h
    rw [Nat.mod_eq_of_lt (List.mem_range.mp ha), Nat.mod_eq_of_lt (List.mem_range.mp hb)] at this
    exact hne this
  refine (List.perm_ext_iff_of_nodup n1 List.nodup_range).mpr fun x => ?_
  rw [List.mem_range, List.mem_map]
  constructor
  · rintro ⟨y, _, rfl⟩
    exact rv_lt s y
  · intro h
    exact ⟨rv s x, List.mem_range.mpr (rv_lt s x), by rw [rv_rv, Nat.mod_eq_of_lt h]⟩
theorem sorted_places {s : Nat} (hs : s ≤ 16) {l : List Int} (hp : l.Perm ((List.range (2 ^ s)).map fun i => ((r16 i : Nat) : Int))) (ho : l.Pairwise (· ≤ ·)) :
    l = (List.range (2 ^ s)).map fun i => ((i * 2 ^ (16 - s) : Nat) : Int) := by
  have e : ((List.range (2 ^ s)).map fun i => ((r16 i : Nat) : Int)) = ((List.range (2 ^ s)).map (rv s)).map fun i => ((i * 2 ^ (16 - s) : Nat) : Int) := by
    rw [List.map_map]
    refine List.map_congr_left fun i hi => ?_
    show ((r16 i : Nat) : Int) = ((rv s i * 2 ^ (16 - s) : Nat) : Int)
    rw [r16_slot hs (List.mem_range.mp hi)]
  rw [e] at hp
  have hp2 := hp.trans ((rv_perm s).map _)
  refine List.Perm.eq_of_pairwise (le := (· ≤ ·)) (fun a b _ _ h1 h2 => Int.le_antisymm h1 h2) ho ?_ hp2
  refine List.pairwise_map.mpr ((List.pairwise_lt_range).imp fun {a b} h => ?_)
  have : a * 2 ^ (16 - s) ≤ b * 2 ^ (16 - s) := Nat.mul_le_mul_right _ (Nat.le_of_lt h)
  omega
theorem r16_at {s p : Nat} (hs : s ≤ 16) (hp : p < 65536) : r16 (r16 p % 2 ^ s) = p / 2 ^ (16 - s) * 2 ^ (16 - s) := by
  have l : p / 2 ^ (16 - s) < 2 ^ s := (Nat.div_lt_iff_lt_mul (pow_pos2 _)).mpr (by rw [pow_mul16 hs]; exact hp)
  rw [r16_slot hs (Nat.mod_lt _ (pow_pos2 s)), slotAt_eq p hs, rv_rv, Nat.mod_eq_of_lt l]
theorem next_slot {s n : Nat} (hs : s ≤ 16) (hn : n < 2 ^ s) (h : r16 n + 2 ^ (16 - s) < 65536) : r16 (r16 (r16 n + 2 ^ (16 - s)) % 2 ^ s) = r16 n + 2 ^ (16 - s) := by
  rw [r16_at hs h, r16_slot hs hn]
  have e : rv s n * 2 ^ (16 - s) + 2 ^ (16 - s) = (rv s n + 1) * 2 ^ (16 - s) := by rw [Nat.succ_mul]
  rw [e, Nat.mul_div_cancel _ (pow_pos2 _)]
theorem prev_slot {s n : Nat} (hs : s ≤ 16) (hn : n < 2 ^ s) (h : 0 < r16 n) : r16 (r16 (r16 n - 1) % 2 ^ s) + 2 ^ (16 - s) = r16 n := by
  have l := r16_lt n
  rw [r16_at hs (by omega)]
  rw [r16_slot hs hn] at h ⊢
  have hw := pow_pos2 (16 - s)
  generalize 2 ^ (16 - s) = w at h hw ⊢
  cases e : rv s n with
  | zero => rw [e] at h; simp at h
  | succ q =>
    have e2 : (q + 1) * w - 1 = q * w + (w - 1) := by rw [Nat.succ_mul]; omega
    rw [e2, Nat.mul_comm q w, Nat.mul_add_div hw, Nat.div_eq_of_lt (by omega), Nat.add_zero, Nat.succ_mul]
theorem pow_split {s g : Nat} (hs : s ≤ g) (hg : g ≤ 16) : 2 ^ (16 - s) = 2 ^ (g - s) * 2 ^ (16 - g) := by
  rw [← Nat.pow_add]
  congr 1
  omega
theorem sub_stretch {s g n m : Nat} (hs : s ≤ g) (hg : g ≤ 16) (hm : m < 2 ^ g) (hn : n < 2 ^ s) (hmn : m % 2 ^ s = n) : r16 n ≤ r16 m ∧ r16 m + 2 ^ (16 - g) ≤ r16 n + 2 ^ (16 - s) := by
  have h := (in_stretch m (show s ≤ 16 by omega) hn).mpr hmn
  refine ⟨h.1, ?_⟩
  have h2 := h.2
  rw [r16_slot hg hm, r16_slot (show s ≤ 16 by omega) hn, pow_split hs hg] at h2 ⊢
  have hv := pow_pos2 (16 - g)
  generalize 2 ^ (16 - g) = v at h2 hv ⊢
  rw [← Nat.mul_assoc, ← Nat.add_mul] at h2 ⊢
  have h3 := Nat.lt_of_mul_lt_mul_right h2
  have h4 : (rv g m + 1) * v ≤ (rv s n * 2 ^ (g - s) + 2 ^ (g - s)) * v := Nat.mul_le_mul_right v h3
  rwa [Nat.succ_mul] at h4
theorem slot_mono {s a b : Nat} (hs : s ≤ 16) (h : r16 a ≤ r16 b) : r16 (a % 2 ^ s) ≤ r16 (b % 2 ^ s) := by
  rw [r16_slot hs (Nat.mod_lt _ (pow_pos2 s)), r16_slot hs (Nat.mod_lt _ (pow_pos2 s)), rv_mod, rv_mod, ← r16_div a hs, ← r16_div b hs]
  exact Nat.mul_le_mul_right _ (Nat.div_le_div_right h)
theorem mod_mod_pow {s g : Nat} (k : Nat) (hs : s ≤ g) : k % 2 ^ g % 2 ^ s = k % 2 ^ s := Nat.mod_mod_of_dvd k ((Nat.pow_dvd_pow_iff_le_right (by decide : 1 < 2)).mpr hs)
/-- the j-th slot of the greater row in a stretch -/
theorem inner_slot {s g n j : Nat} (hs : s ≤ g) (hg : g ≤ 16) (hn : n < 2 ^ s) (hj : j < 2 ^ (g - s)) :
    r16 (r16 n + j * 2 ^ (16 - g)) % 2 ^ g % 2 ^ s = n ∧ r16 (r16 (r16 n + j * 2 ^ (16 - g)) % 2 ^ g) = r16 n + j * 2 ^ (16 - g) := by
  have e := pow_split hs hg
  have hv := pow_pos2 (16 - g)
  have l : (j + 1) * 2 ^ (16 - g) ≤ 2 ^ (g - s) * 2 ^ (16 - g) := Nat.mul_le_mul_right _ hj
  rw [Nat.succ_mul] at l
  have se := stretch_end (show s ≤ 16 by omega) hn
  rw [e] at se
  constructor
  · rw [mod_mod_pow _ hs]
    exact at_stretch (by omega) hn (by omega) (by rw [e]; omega)
  · rw [r16_at hg (by omega), r16_slot (show s ≤ 16 by omega) hn, e, ← Nat.mul_assoc, ← Nat.add_mul, Nat.mul_div_cancel _ hv]
end Z

/-! Z2: rules of my own: chains of three and four, d.update(e). -/
namespace Z
open PySem PySem.Spec PyProof.Rows L2
section
variable {X : Cx} {a b c d f : Expr} {ta tb tc td tf : TE} {pos : Pos} {pins : List (Addr × Obj)} {σ : L2.St} {H : Hp}
def tLink (r : R2) (y : V) (tc : TE) (nxt : V → L2.St → Hp → VK → Prop) : V → L2.St → Hp → VK → Prop := fun x σ H Q => r x y H fun z H3 => rTst z H3 fun k H4 => Br k (tc σ H4 fun w H5 => nxt w σ H5 Q) (Q (.bl false) H4)
def tChain3 (r r' r'' : R2) (ta tb tc td : TE) : TE := fun σ H Q => ta σ H fun x H1 => tb σ H1 fun y H2 => r x y H2 fun z H3 => rTst z H3 fun k H4 => Br k (tc σ H4 fun z' H5 => r' y z' H5 fun u H6 => rTst u H6 fun k' H7 => Br k' (td σ H7 fun w' H8 => r'' z' w' H8 Q) (Q (.bl false) H7)) (Q (.bl false) H4)
theorem pe_chain3 {op op' op'' : CmpOp} {r r' r'' : R2} (ho : OpR X (compareOp op) r) (ho' : OpR X (compareOp op') r') (ho'' : OpR X (compareOp op'') r'') (ha : PE X a ta) (hb : PE X b tb) (hc : PE X c tc) (hd : PE X d td)
    (hm : lastMarks [op, op', op''] [b, c, d] = false := by with_unfolding_all rfl) : PE X (.Compare a [op, op', op''] [b, c, d] pos) (tChain3 r r' r'' ta tb tc td) := by
  refine ⟨fun pins s σ H Q I h => ?_⟩
  refine Compare_chain (thn (ha.run pins s σ H _ I h) fun v s1 ⟨x, H1, I1, r1, q1⟩ => chain_link (thn (hb.run pins s1 σ H1 _ I1 q1) fun u s2 ⟨y, H2, I2, r2, q2⟩ =>
    thn (ho pins s2 σ H2 x y v u _ I2 r1 r2 q2) fun d s3 ⟨z, H3, I3, r3, k, e, q3⟩ => ?_)) hm
  subst e
  cases r3
  refine wpAny_truthy_bool ?_
  unfold Br at q3
  cases k with
  | false => exact ite_ff ⟨.bl false, H3, I3, rfl, q3⟩
  | true =>
    refine ite_tt (chain_link (thn (hc.run pins s3 σ H3 _ I3 q3) fun w' s4 ⟨z', H4, I4, r4, q4⟩ => thn (ho' pins s4 σ H4 y z' u w' _ I4 r2 r4 q4) fun d' s5 ⟨u2, H5, I5, r5, k2, e2, q5⟩ => ?_))
    subst e2
    cases r5
    refine wpAny_truthy_bool ?_
    cases k2 with
    | false => exact ite_ff ⟨.bl false, H5, I5, rfl, q5⟩
    | true => exact ite_tt (chain_last (thn (hd.run pins s5 σ H5 _ I5 q5) fun w2 s6 ⟨z2, H6, I6, r6, q6⟩ => ho'' pins s6 σ H6 z' z2 w' w2 Q I6 r4 r6 q6))
def tChain4 (r1 r2 r3 r4 : R2) (ta tb tc td tf : TE) : TE := fun σ H Q => ta σ H fun x H1 => tb σ H1 fun y H2 => r1 x y H2 fun z H3 => rTst z H3 fun k H4 => Br k (tc σ H4 fun z' H5 => r2 y z' H5 fun u H6 => rTst u H6 fun k' H7 => Br k' (td σ H7 fun w' H8 => r3 z' w' H8 fun u H6 => rTst u H6 fun k' H7 => Br k' (tf σ H7 fun w2 H8 => r4 w' w2 H8 Q) (Q (.bl false) H7)) (Q (.bl false) H7)) (Q (.bl false) H4)
theorem pe_chain4 {o1 o2 o3 o4 : CmpOp} {q1 q2 q3 q4 : R2} (h1 : OpR X (compareOp o1) q1) (h2 : OpR X (compareOp o2) q2) (h3 : OpR X (compareOp o3) q3) (h4 : OpR X (compareOp o4) q4) (ha : PE X a ta) (hb : PE X b tb) (hc : PE X c tc) (hd : PE X d td) (hf : PE X f tf)
    (hm : lastMarks [o1, o2, o3, o4] [b, c, d, f] = false := by with_unfolding_all rfl) : PE X (.Compare a [o1, o2, o3, o4] [b, c, d, f] pos) (tChain4 q1 q2 q3 q4 ta tb tc td tf) := by
  refine ⟨fun pins s σ H Q I h => ?_⟩
  refine Compare_chain (thn (ha.run pins s σ H _ I h) fun v s1 ⟨x, H1, I1, r1, q1⟩ => chain_link (thn (hb.run pins s1 σ H1 _ I1 q1) fun u s2 ⟨y, H2, I2, r2, q2⟩ =>
    thn (h1 pins s2 σ H2 x y v u _ I2 r1 r2 q2) fun d s3 ⟨z, H3, I3, r3, k, e, q3⟩ => ?_)) hm
  subst e
  cases r3
  refine wpAny_truthy_bool ?_
  unfold Br at q3
  cases k with
  | false => exact ite_ff ⟨.bl false, H3, I3, rfl, q3⟩
  | true =>
    refine ite_tt (chain_link (thn (hc.run pins s3 σ H3 _ I3 q3) fun w' s4 ⟨z', H4, I4, r4, q4⟩ => thn (h2 pins s4 σ H4 y z' u w' _ I4 r2 r4 q4) fun d' s5 ⟨u2, H5, I5, r5, k2, e2, q5⟩ => ?_))
    subst e2
    cases r5
    refine wpAny_truthy_bool ?_
    cases k2 with
    | false => exact ite_ff ⟨.bl false, H5, I5, rfl, q5⟩
    | true =>
      refine ite_tt (chain_link (thn (hd.run pins s5 σ H5 _ I5 q5) fun w2 s6 ⟨z2, H6, I6, r6, q6⟩ => thn (h3 pins s6 σ H6 z' z2 w' w2 _ I6 r4 r6 q6) fun d' s7 ⟨u2, H7, I7, r7, k2, e2, q7⟩ => ?_))
      subst e2
      cases r7
      refine wpAny_truthy_bool ?_
      cases k2 with
      | false => exact ite_ff ⟨.bl false, H7, I7, rfl, q7⟩
      | true => exact ite_tt (chain_last (thn (hf.run pins s7 σ H7 _ I7 q7) fun w3 s8 ⟨z3, H8, I8, r8, q8⟩ => h4 pins s8 σ H8 z2 z3 w2 w3 Q I8 r6 r8 q8))
end
section
variable {σ : L2.St} {H : Hp} {Q : VK} {r1 r2 r3 r4 : R2} {ta tb tc td tf : TE}
theorem g_chain3 (h : ta σ H fun x H1 => tb σ H1 fun y H2 => r1 x y H2 fun z H3 => rTst z H3 fun k H4 => Br k (tc σ H4 fun z' H5 => r2 y z' H5 fun u H6 => rTst u H6 fun k' H7 => Br k' (td σ H7 fun w' H8 => r3 z' w' H8 Q) (Q (.bl false) H7)) (Q (.bl false) H4)) : tChain3 r1 r2 r3 ta tb tc td σ H Q := h
theorem g_chain4 (h : ta σ H fun x H1 => tb σ H1 fun y H2 => r1 x y H2 fun z H3 => rTst z H3 fun k H4 => Br k (tc σ H4 fun z' H5 => r2 y z' H5 fun u H6 => rTst u H6 fun k' H7 => Br k' (td σ H7 fun w' H8 => r3 z' w' H8 fun u H6 => rTst u H6 fun k' H7 => Br k' (tf σ H7 fun w2 H8 => r4 w' w2 H8 Q) (Q (.bl false) H7)) (Q (.bl false) H7)) (Q (.bl false) H4)) : tChain4 r1 r2 r3 r4 ta tb tc td tf σ H Q := h
end
section
variable {X : Cx}
def rUpd : V → List V → Hp → VK → Prop := fun x vs H Q => ∃ a b kvs more, x = .ref a ∧ vs = [.ref b] ∧ b ≠ a ∧ H a = some (.dK kvs) ∧ H b = some (.dK more) ∧ kvs.length + more.length ≤ sizeLine ∧ Q .non (upd H a (.dK (mergeK kvs more)))
theorem mt_update : MtR X "dict.update" rUpd := by
  intro pins s σ H x vs v us Q I rx rv h
  obtain ⟨a, b, kvs, more, rfl, rfl, hab, hA, hB, hz, q⟩ := h
  cases rx
  obtain ⟨u, rfl, ru⟩ := vals1 rv
  cases ru
  obtain ⟨z, hd, vs, rel, dd⟩ := dk_of I.hok hA
  obtain ⟨z2, hd2, vs2, rel2, dd2⟩ := dk_of I.hok hB
  refine call_meetsIn PySem.F.slot_dict_update dd.typeIs PySem.F.entry_dict_update (PySem.F.args_dict_update_2 _ _) (meets_dict_update (mixKind X.prog X.w) a b (Ne.symm hab) hd2)
    ⟨vs, vs2, dd, dd2, by rw [← rel.length, ← rel2.length]; exact hz, fun h' dd' _ hs => ?_⟩
  have he : ∃ q, h'.get? a = some q := let ⟨q, _, _, hq, _⟩ := dd'; ⟨q, hq⟩
  refine ⟨.non, _, d_write (t' := s.toks) I (by rw [hA]; exact True.intro) hs he (dk_new (Nat.le_trans (length_mergeK more kvs) hz) hd (rel2.merge rel) dd'), rfl, q⟩
end
end Z

/-! Z3: sorted of pairs of ints. -/
namespace Z
open PySem PySem.Spec PyProof.Rows L2
def pairOf (B : Hp) (p : Addr) : Int × Int := match B p with | some (.tup [.int i, .int j]) => (i, j) | _ => (0, 0)
theorem pairOf_eq {B : Hp} {p : Addr} {i j : Int} (h : B p = some (.tup [.int i, .int j])) : pairOf B p = (i, j) := by unfold pairOf; rw [h]
def vAd : V → Addr | .ref a => a | _ => 0
def rSortP (K : PySem.W.Frag) : List V → Hp → VK → Prop := rSortedPO K
theorem call_sortP {X : Cx} : CallR X (.builtin "sorted") (rSortP X.K) := cr_sortedPO
theorem refs_of : ∀ {ys : List V}, (∀ y ∈ ys, ∃ p, y = V.ref p) → ∃ qs : List Addr, ys = qs.map V.ref
  | [], _ => ⟨[], rfl⟩
  | y :: ys, h => by
    obtain ⟨p, rfl⟩ := h y (List.mem_cons_self ..)
    obtain ⟨qs, rfl⟩ := refs_of fun z hz => h z (List.mem_cons_of_mem _ hz)
    exact ⟨p :: qs, rfl⟩
theorem map_ref_perm {ps qs : List Addr} (h : (ps.map V.ref).Perm (qs.map V.ref)) : ps.Perm qs := by
  have := h.map vAd
  rwa [List.map_map, List.map_map, show (vAd ∘ V.ref) = id from rfl, List.map_id, List.map_id] at this
theorem r_sortP {K : PySem.W.Frag} {B H : Hp} {L : List Cell} {a : Addr} {ps : List Addr} {Q : VK} (w : W B L H) (h : SqL K B a (ps.map V.ref)) (hp : ∀ p ∈ ps, ∃ i j, B p = some (.tup [.int i, .int j]))
    (q : ∀ (p : Addr) (B' H' : Hp) (qs : List Addr), Same B B' → qs.Perm ps → (qs.map fun p => (pairOf B p).1).Pairwise (· ≤ ·) → qs.Pairwise (fun x y => ¬ ((pairOf B y).1 < (pairOf B x).1 ∨ ((pairOf B y).1 = (pairOf B x).1 ∧ (pairOf B y).2 < (pairOf B x).2))) → B' p = some (.lst (qs.map V.ref)) → W B' L H' → Q (.ref p) H') : rSortP K [.ref a] H Q := by
  refine ⟨a, ps.map V.ref, fun v => pairOf B (vAd v), rfl, w.sq h, fun x hx => ?_, fun ys p hs hb hn => ?_⟩
  · obtain ⟨t, ht, rfl⟩ := List.mem_map.mp hx
    obtain ⟨i, j, e⟩ := hp t ht
    refine ⟨t, rfl, ?_⟩
    show H t = some (.tup [.int (pairOf B t).1, .int (pairOf B t).2])
    rw [pairOf_eq e]
    exact w.rd e
  · obtain ⟨qs, rfl⟩ := refs_of (ys := ys) fun y hy => by
      obtain ⟨t, _, e⟩ := List.mem_map.mp (hb.perm.mem_iff.mp hy)
      exact ⟨t, e.symm⟩
    have pm := map_ref_perm hb.perm
    have pw : qs.Pairwise (fun x y => ¬ ((pairOf B y).1 < (pairOf B x).1 ∨ ((pairOf B y).1 = (pairOf B x).1 ∧ (pairOf B y).2 < (pairOf B x).2))) := by
      have := List.pairwise_map.mp hs
      exact this.imp fun {x y} hxy => SrtO.lexB_no.mp hxy
    refine q p _ _ qs (same_new (w.freeB hn)) pm (List.pairwise_map.mpr (pw.imp fun {x y} hxy => by omega)) pw upd_same (w.newB hn _)
end Z

/-! Z5: C.__init__(self, ..) of an own class C, by its name; what is never reached. -/
namespace Z
open PySem PySem.Spec PyProof.Rows L2
section
variable {X : Cx} {CX : CXT} {k : Nat} {x m : Str} {C0 fI : Addr} {mc : Value} {fd : FuncData} {ps : List Str} {sp : Sp} {ds : List Value} {dvs : List V} {E : XK} {e : Expr} {es : List Expr} {ta t : TA} {p1 p2 pos : Pos} {st : Stmt} {pl : Sem Bool}
theorem ps_dead : PS X st (fun _ _ _ => False) := ⟨fun _ _ _ _ _ _ h => h.elim⟩
/-- WalkError.__init__(self, ..): nothing of it is told -/
theorem pe_weinit (hg : Gl X x) (hm : X.mg x = some (.ref C0)) (r : ClX.CRead X.K C0 mc) (vV : PySem.W.findCls X.K (.ref C0) mc "__init__" = some (.val (.builtin "ValueError.__init__"))) (ha : PA X (e :: es) ta)
    (hdb : (x == ("__debug__" : Str)) = false := by decide)
    (hc : eval (.Call (.Attribute (.Name x p1) "__init__" p2) (e :: es) [] pos) X.env = (do
      let ov ← eval (.Name x p1) X.env
      standAt p2.atName
      let (f, first) ← holding [ov] (getMethod ov "__init__" pl)
      callWith pos f first (backTo pos (starEach (e :: es) X.env)) (backToKw pos (keywordEach [] X.env))) := by rfl)
    (he : starEach (e :: es) X.env = (false, eval e X.env) :: starEach es X.env := by rfl) (hpl : (backTo pos (starEach es X.env)).any (·.1) = false := by rfl) :
    PE X (.Call (.Attribute (.Name x p1) "__init__" p2) (e :: es) [] pos) (tVeI X.K ta) := by
  refine ⟨fun pins s σ H Q I h => ?_⟩
  refine PySem.W.methodCall_KW (ld_glob I hg hm ?_ hdb) hc
  refine PySem.W.method_cls I.kIn r.ga (PySem.W.cls_value I.kIn r.rd vV (by decide +kernel) ?_)
  show wpAny _ _ (callWith pos (Value.builtin "ValueError.__init__") [] (backTo pos (starEach (e :: es) X.env)) []) _ _ _
  refine PyProof.Rows.callWith_method1 (thn (ha.run pos pins _ σ H _ (I.tok _) h) fun us s1 ⟨vs, H1, I1, r1, a, C, ws, ev, hl, T, ea, q⟩ => ?_) he hpl
  subst ev
  cases r1 with
  | @cons _ u0 _ ur ra rw' =>
    obtain rfl : u0 = Value.ref a := ra
    have hlen : ur.length ≤ sizeLine := by
      rw [← Paired.length rw', sizeLine_eq]
      omega
    exact oinit_ok T I1 ea hlen fun s' J => ⟨.non, H1, J, rfl, q⟩
/-- C.m(a, ..), m a def of the class at C0 -/
theorem pe_cinit (hg : Gl X x) (hm : X.mg x = some (.ref C0)) (r : ClX.CRead X.K C0 mc) (vV : PySem.W.findCls X.K (.ref C0) mc m = some (.val (.ref fI))) (hh : PySem.W.handedIn (.ref fI) = true)
    (F : FnOk X.prog X.w X.K X.mg X.base CX k fI fd ps sp) (hr : Room k X.A) (hk : PySem.W.keepIn X.K (.ref fI) = true) (hb : Binds X.K fd ps ds) (hd : Vals dvs ds) (hx : Passes CX X E) (ha : PA X (e :: es) t)
    (hdb : (x == ("__debug__" : Str)) = false := by decide)
    (hc : eval (.Call (.Attribute (.Name x p1) m p2) (e :: es) [] pos) X.env = (do
      let ov ← eval (.Name x p1) X.env
      standAt p2.atName
      let (f, first) ← holding [ov] (getMethod ov m pl)
      callWith pos f first (backTo pos (starEach (e :: es) X.env)) (backToKw pos (keywordEach [] X.env))) := by rfl)
    (he : starEach (e :: es) X.env = (false, eval e X.env) :: starEach es X.env := by rfl) (hpl : (backTo pos (starEach es X.env)).any (·.1) = false := by rfl) :
    PE X (.Call (.Attribute (.Name x p1) m p2) (e :: es) [] pos) (tCall sp dvs E t) := by
  refine ⟨fun pins s σ H Q I h => ?_⟩
  refine PySem.W.methodCall_KW (ld_glob I hg hm ?_ hdb) hc
  refine PySem.W.method_cls I.kIn r.ga (PySem.W.cls_value I.kIn r.rd vV hh ?_)
  show wpAny _ _ (callWith pos (Value.ref fI) [] (backTo pos (starEach (e :: es) X.env)) []) _ _ _
  refine PySem.W.callWith_K (h₀ := X.base) I.ok.mod.kin hk (thn (ha.run pos pins _ σ H _ (I.tok _) h) fun us s1 ⟨vs, H1, I1, r, q⟩ => ⟨I1.kIn, ?_⟩) he hpl
  exact run_fn F hr hb hd hx I1 r q
end
end Z

/-! Z6: readings of lists: methods, stores, in, sum, sorted. -/
namespace Z
open PySem PySem.Spec PyProof.Rows L2
def rBm (K : PySem.W.Frag) (T : String) (r : V → List V → Hp → VK → Prop) (t : TA) (σ : L2.St) (x : V) (H1 : Hp) (Q : VK) : Prop := tyV K T x H1 ∧ t σ H1 fun xs H2 => r x xs H2 Q
section
variable {K : PySem.W.Frag} {T : String} {r : V → List V → Hp → VK → Prop} {t : TA} {to ti : TE} {σ : L2.St} {H : Hp} {Q : VK} {x y v : V} {l p : Addr} {xs : List V} {ns : List Int} {n : Int} {k : Nat} {ts : TSet} {QS : L2.St → Hp → Prop} {P : Hp → Prop}
theorem g_bm (h : to σ H fun x H1 => rBm K T r t σ x H1 Q) : tBM K T r to t σ H Q := h
theorem g_bm0 (h : to σ H fun x H1 => tyV K T x H1 ∧ r x [] H1 Q) : tBM0 K T r to σ H Q := h
theorem r_bmL (h : SqL K H l xs) (q : t σ H fun xs H2 => r (.ref l) xs H2 Q) : rBm K "list" r t σ (.ref l) H Q := ⟨.inl ⟨rfl, _, h⟩, q⟩
theorem r_append (h : H l = some (.lst xs)) (z : xs.length < sizeLine) (q : Q .non (upd H l (.lst (xs ++ [y])))) : rAppend (.ref l) [y] H Q := ⟨l, xs, y, rfl, rfl, h, z, q⟩
theorem r_extend {zs : List V} (h : H l = some (.lst xs)) (h2 : H p = some (.lst zs)) (z : xs.length + zs.length ≤ sizeLine) (q : Q .non (upd H l (.lst (xs ++ zs)))) : rExtend (.ref l) [.ref p] H Q := ⟨l, p, xs, zs, rfl, rfl, h, h2, z, q⟩
theorem seqIx (h : k < xs.length) : seqIndex? (k : Int) xs.length = some k := by
  unfold seqIndex?
  have e : (if (k : Int) < 0 then (k : Int) + (xs.length : Nat) else (k : Int)) = (k : Int) := if_neg (by omega)
  simp only [e]
  rw [if_pos (by simp; omega)]
  simp
theorem r_popAt (h : H l = some (.lst xs)) (z : xs.length < 2 ^ 62) (e : xs[k]? = some y) (q : Q y (upd H l (.lst (xs.eraseIdx k)))) : rPopAt (.ref l) [.int (k : Nat)] H Q := by
  have hk := (List.getElem?_eq_some_iff.mp e).1
  exact ⟨l, xs, k, k, y, rfl, rfl, h, by omega, by omega, seqIx hk, e, q⟩
def rInsert : V → List V → Hp → VK → Prop := fun x vs H Q => ∃ (l : Addr) (xs : List V) (i : Int) (y : V), x = .ref l ∧ vs = [.int i, y] ∧ H l = some (.lst xs) ∧ xs.length < sizeLine ∧ 0 ≤ i ∧ i < 2 ^ 63 ∧ Q .non (upd H l (.lst (xs.take i.toNat ++ [y] ++ xs.drop i.toNat)))
theorem mt_insertZ {X : Cx} : MtR X "list.insert" rInsert := mt_insert
theorem r_insert (h : H l = some (.lst xs)) (z : xs.length < sizeLine) (hk : k < 2 ^ 62) (q : Q .non (upd H l (.lst (xs.take k ++ [y] ++ xs.drop k)))) : rInsert (.ref l) [.int (k : Nat), y] H Q :=
  ⟨l, xs, k, y, rfl, rfl, h, z, by omega, by omega, q⟩
def rSubS (ts : TSet) (v : V) (QS : Hp → Prop) (o i : V) (H2 : Hp) : Prop := ts o i v H2 QS
theorem g_sub (h : to σ H fun o H1 => ti σ H1 fun i H2 => rSubS ts v (QS σ) o i H2) : gSub to ti ts v σ H QS := h
theorem r_setL (h : H l = some (.lst xs)) (hk : k < xs.length) (q : P (upd H l (.lst (xs.set k v)))) : rSubS rSetL v P (.ref l) (.int (k : Nat)) H := by
  refine ⟨l, xs, k, k, rfl, rfl, h, ?_, q⟩
  unfold ixN
  rw [if_pos (by omega), if_pos (by omega)]
  simp
theorem flat_ints : ∀ ns : List Int, (ns.map V.int).all flatV = true
  | [] => rfl
  | _ :: r => by rw [List.map_cons, List.all_cons, flat_ints r]; rfl
theorem in_ints (n : Int) : ∀ ns : List Int, inV (.int n) (ns.map V.int) = decide (n ∈ ns)
  | [] => by simp [inV]
  | m :: r => by
    have h := in_ints n r
    unfold inV at h ⊢
    rw [List.map_cons, List.any_cons, h]
    show (m == n || decide (n ∈ r)) = decide (n ∈ m :: r)
    by_cases e : n = m
    · subst e; simp
    · have e2 : (m == n) = false := by simpa using fun h : m = n => e h.symm
      rw [e2]
      simp [e]
theorem r_inL (h : SqL K H p (ns.map V.int)) (q : Q (.bl (decide (n ∈ ns))) H) : rIn K false (.int n) (.ref p) H Q := ⟨p, _, rfl, .inl h, rfl, flat_ints ns, by rw [in_ints]; exact q⟩
theorem r_ninL (h : SqL K H p (ns.map V.int)) (q : Q (.bl (!decide (n ∈ ns))) H) : rIn K true (.int n) (.ref p) H Q := ⟨p, _, rfl, .inl h, rfl, flat_ints ns, by rw [in_ints]; exact q⟩
theorem r_sum (h : SqL K H p (ns.map V.int)) (q : Q (.int ns.sum) H) : rSum K [.ref p] H Q := ⟨p, ns, rfl, h, q⟩
theorem r_sortI {B : Hp} {L : List Cell} (w : W B L H) (h : SqL K H p (ns.map V.int)) (q : ∀ (p' : Addr) (B' H' : Hp) (ms : List Int), ms.Perm ns → ms.Pairwise (· ≤ ·) → Same B B' → B' p' = some (.lst (ms.map V.int)) → W B' L H' → Q (.ref p') H') : rSortedI K [.ref p] H Q :=
  ⟨p, ns, rfl, h, fun ms p' h1 h2 hn => q p' _ _ ms h1 h2 (same_new (w.freeB hn)) upd_same (w.newB hn _)⟩
end
end Z

/-! Z7: sorted of a dict's keys, whole numbers, any number of them. -/
namespace Z
open PySem PySem.Spec PyProof.Rows L2
def rSortDI : List V → Hp → VK → Prop := fun xs H Q => ∃ (a : Addr) (kvs : List (Key × V)) (ns : List Int), xs = [.ref a] ∧ Rd H a (.dK kvs) ∧ kvs.map (·.1) = ns.map Sum.inl ∧
  ∀ (ms : List Int) (p : Addr), ms.Perm ns → ms.Pairwise (· ≤ ·) → H p = none → Q (.ref p) (upd H p (.lst (ms.map V.int)))
theorem call_sortDI {X : Cx} (hcalm : X.calm = true) : CallR X (.builtin "sorted") rSortDI := by
  intro pins s σ H xs us Q I r q
  obtain ⟨a, kvs, ns, ex, hd, hks, q⟩ := q
  subst ex
  obtain ⟨u, eu, rx⟩ := vals1 r
  subst eu
  cases rx
  obtain ⟨z, lo, vs, rel, dd⟩ := dk_rd I.hok hd
  obtain ⟨ep, hat⟩ := dd.dictAt
  have hkeys : vs.map (·.1) = ns.map Sum.inl := rel.keys.symm.trans hks
  have hl : vs.length = ns.length := by
    have e := congrArg List.length hkeys
    rw [List.length_map, List.length_map] at e
    exact e
  have h16 : vs.length ≤ sizeLine := by rw [← rel.length]; exact z
  refine Calls.call_function_entry PyProof.Rows.kind_sorted PyProof.Rows.plain_sorted PyProof.Rows.entry_sorted (PyProof.Rows.args_sorted1 _) ?_
  unfold Builtin.«sorted»
  refine wpAny_bind (m := checkCount "sorted" 1 1 _) (wpAny_pure ?_)
  refine wpAny_bind (PySem.W.kdu_collect (A := X.A.in1) (PySem.W.kdl_dict (knd := mixKind X.prog X.w) (kvs := vs) (ep := ep) lo) (I.ok.hd hcalm) hat h16 fun h' tk acc hk hacc => ?_)
  have hv : Vals (vs.map fun p => kV p.1) acc.toList := keys_at (by rw [Array.length_toList]; exact hacc.1) fun j v e => hacc.2 j v (by rw [← Array.getElem?_toList]; exact e)
  have ek : (vs.map fun p => kV p.1) = ns.map V.int := by
    have e := congrArg (List.map kV) hkeys
    rw [List.map_map, List.map_map] at e
    exact e
  rw [ek] at hv
  have hi := hv.ints
  have hal : acc.toList.length = ns.length := by rw [Array.length_toList, hacc.1, hl]
  have hz : acc.toList.length ≤ sizeLine := by rw [hal, ← hl]; exact h16
  have I1 : Inv X pins σ H { s with heap := h', toks := tk } := I.kept hk
  refine wpAny_bind (wpAny_newList ?_ hz)
  have hoL : (h'.push (seqObj "list" acc.toList.toArray 0)).get? h'.objs.size = some (seqObj "list" acc.toList.toArray 0) := Heap.get?_push_size _ rfl
  show wpAny _ _ _ _ _ { s with heap := h'.push (seqObj "list" acc.toList.toArray 0), toks := tk }
  refine wpAny_bind (wpAny_holding (wpAny_call_entry PyProof.Rows.slot_list_sort ⟨_, hoL, rfl⟩ PyProof.Rows.entry_list_sort
    (SrtO.list_sort_ord SrtO.swo_int (s := { s with heap := h'.push (seqObj "list" acc.toList.toArray 0), toks := tk }) hoL hz (fun h2 => SrtO.ints_sortable hi h2) fun out h1 h2 => ⟨_, rfl, ?_⟩)
    (PyProof.Rows.args_list_sort _)))
  obtain ⟨k1, k2, k3⟩ := SrtO.ints_out hi h1 h2
  obtain ⟨e', he'⟩ := PyProof.Rows.sortedHeap_at (vs := acc.toList) (out := out.toArray) hoL
  have hlen : ((out.map SrtO.iv).map V.int).length ≤ sizeLine := by
    rw [List.length_map, k2.length_eq, ← hl]
    exact h16
  refine wpAny_pure ⟨_, rfl, .ref h'.objs.size, upd H h'.objs.size (.lst ((out.map SrtO.iv).map V.int)), I1.laid (t' := tk) (fun b u e => ?_) (Nat.le_refl _)
    (show ObjOk X.prog X.w _ _ _ (.lst ((out.map SrtO.iv).map V.int)) from ⟨hlen, out, e', vals_of_ints k1, he'⟩), rfl, q _ _ k2 k3 (I1.hok.fresh (Nat.le_refl _))⟩
  have hb : b < h'.objs.size := Heap.lt_size e
  rw [PyProof.Rows.sortedHeap_old (Nat.ne_of_lt hb) (by rw [size_push']; exact Nat.lt_succ_of_lt hb)]
  exact Heap.get?_push_of_some _ e
end Z

/-! Z8: slices by a step of two or more. -/
namespace Z
open PySem PySem.Spec PyProof.Rows L2
theorem vals_pick {xs : List V} {us : List Value} (r : Vals xs us) : ∀ js : List Nat, Vals (js.filterMap (xs[·]?)) (js.filterMap (us.toArray[·]?))
  | [] => .nil
  | j :: js => by
    have ih := vals_pick r js
    cases e : xs[j]? with
    | none =>
      have e2 : us[j]? = none := r.none_of e
      have e3 : us.toArray[j]? = none := by simpa using e2
      rw [List.filterMap_cons_none e, List.filterMap_cons_none e3]
      exact ih
    | some x =>
      obtain ⟨u, e2, ru⟩ := r.get e
      have e3 : us.toArray[j]? = some u := by simpa using e2
      rw [List.filterMap_cons_some e, List.filterMap_cons_some e3]
      exact .cons ru ih
theorem range_up {a b c : Int} (ha : 0 ≤ a) (hc : 0 < c) : (sliceRange a b c).Pairwise (· < ·) := by
  unfold sliceRange
  refine List.pairwise_map.mpr ?_
  refine List.pairwise_lt_range.imp ?_
  intro i j hij
  have h1 : 0 ≤ c * (i : Int) := Int.mul_nonneg (by omega) (by omega)
  have h2 : c * (i : Int) < c * (j : Int) := Int.mul_lt_mul_of_pos_left (by omega) hc
  omega
def rStep (K : PySem.W.Frag) (Q : VK) (x : V) (H : Hp) : Prop := ∃ a xs, x = .ref a ∧ SqL K H a xs ∧ ∀ (js : List Nat) p, js.Pairwise (· < ·) → (js.filterMap (xs[·]?)).length ≤ xs.length → H p = none → Q (.ref p) (upd H p (.lst (js.filterMap (xs[·]?))))
def tStep0 (K : PySem.W.Frag) (te : TE) : TE := fun σ H Q => te σ H (rStep K Q)
def tStepL (K : PySem.W.Frag) (te : TE) (lo : Int) : TE := fun σ H Q => te σ H (rStep K Q)
section
variable {X : Cx}
theorem pe_step {e : Expr} {te : TE} {low : Option Expr} {tl : TO} {lo : Option Int} {c : Int} {k : Nat} {p1 p3 pos : Pos} (hc : 0 < c) (hp : PO X low tl) (htl : ∀ σ H (Q : Option Int → Hp → Prop), Q lo H → tl σ H Q) (he : PE X e te) : PE X (.Subscript e (.Slice low none (some (.Constant (.int c) k p1)) p3) pos) (tStep0 X.K te) := by
  refine ⟨fun pins s σ H Q I h => ?_⟩
  refine Subscript_ (thn (he.run pins s σ H _ I h) fun v s1 ⟨x, H1, I1, r1, q1⟩ => ?_)
  obtain ⟨a, xs, ex, hx, q⟩ := q1
  subst ex
  cases r1
  have hst : PO X (some (.Constant (.int c) k p1)) (tPart (tC (.int c))) := po_some pe_int
  refine wpAny_Slice (thn (hp.run pins s1 σ H1 (fun o H2 => o = lo ∧ H2 = H1) I1 (htl _ _ _ ⟨rfl, rfl⟩)) fun vl s2 ⟨l, H2, I2, pl, el, e2⟩ => ?_)
  subst el e2
  refine thn (po_none.run pins s2 σ H2 (fun o H3 => o = none ∧ H3 = H2) I2 ⟨rfl, rfl⟩) fun vu s3 ⟨u, H3, I3, pu, eu, e3⟩ => ?_
  subst eu e3
  refine thn (hst.run pins s3 σ H3 (fun o H4 => o = some c ∧ H4 = H3) I3 ⟨c, rfl, rfl, rfl⟩) fun vs s4 ⟨o, H4, I4, ps, eo, e4⟩ => ?_
  subst eo e4
  have I5 : Inv X pins σ H4 { s4 with heap := s4.heap.push { cls := .type "slice", data := .fields #[vl, vu, vs] } } := I4.kept (t' := s4.toks) fun b ob q => Heap.get?_push_of_some _ q
  obtain ⟨its, r, ht, hz⟩ := I5.list hx
  have hlen := r.length
  show wpAny (model X.prog X.w) X.A (subscriptTail e (.Slice low none (some (.Constant (.int c) k p1)) p3) (.ref a) (.ref s4.heap.objs.size)) (EP X pins σ Q) X.xe { s4 with heap := s4.heap.push { cls := .type "slice", data := .fields #[vl, vu, vs] } }
  refine tail_any (ops := [.ref a, .ref s4.heap.objs.size]) ht.isList.typeIs (PySem.slot_list_getitem.lookup) ?_ (by with_unfolding_all rfl)
  refine wpAny_getItem_list_slice ht.isList (Heap.IsSliceOf.new _ vl vu vs) pl pu ps (by simp; omega) ?_ (by rw [List.size_toArray]; omega)
  have h1 := slicePick_size_le its.toArray l none (some c)
  have hv := vals_pick r (sliceRange (sliceBounds l none (some c) its.toArray.size).1 (sliceBounds l none (some c) its.toArray.size).2.1 (sliceBounds l none (some c) its.toArray.size).2.2)
  have hj : (sliceRange (sliceBounds l none (some c) its.toArray.size).1 (sliceBounds l none (some c) its.toArray.size).2.1 (sliceBounds l none (some c) its.toArray.size).2.2).Pairwise (· < ·) := by
    have h3 : (sliceBounds l none (some c) its.toArray.size).2.2 = c := rfl
    rw [h3]
    refine range_up ?_ hc
    simp only [sliceBounds, Option.getD_some, gt_iff_lt, hc, if_true]
    cases l with
    | none => simp
    | some i => dsimp only; omega
  unfold slicePick at h1 ⊢
  generalize sliceRange (sliceBounds l none (some c) its.toArray.size).1 (sliceBounds l none (some c) its.toArray.size).2.1 (sliceBounds l none (some c) its.toArray.size).2.2 = js at h1 hv hj ⊢
  have hl2 : (js.filterMap (xs[·]?)).length ≤ xs.length := by rw [hv.length]; rw [List.size_toArray, List.size_toArray] at h1; omega
  refine ⟨.ref _, _, I5.laid (t' := s4.toks) (o := .lst (js.filterMap (xs[·]?))) (fun b ob q => Heap.get?_push_of_some _ q) (Nat.le_refl _) ?_, rfl, q js _ hj hl2 (I5.hok.fresh (Nat.le_refl _))⟩
  exact ⟨by omega, _, 0, hv, Heap.get?_push_size _ rfl⟩
theorem pe_step0 {e : Expr} {te : TE} {c : Int} {k : Nat} {p1 p3 pos : Pos} (hc : 0 < c) (he : PE X e te) : PE X (.Subscript e (.Slice none none (some (.Constant (.int c) k p1)) p3) pos) (tStep0 X.K te) :=
  pe_step (lo := none) hc po_none (fun _ _ _ h => h) he
theorem pe_stepL {e : Expr} {te : TE} {c lo : Int} {k k2 : Nat} {p1 p2 p3 pos : Pos} (hc : 0 < c) (he : PE X e te) : PE X (.Subscript e (.Slice (some (.Constant (.int lo) k2 p2)) none (some (.Constant (.int c) k p1)) p3) pos) (tStep0 X.K te) :=
  pe_step (lo := some lo) (tl := tPart (tC (.int lo))) hc (po_some pe_int) (fun _ _ _ h => ⟨lo, rfl, h⟩) he
end
section
variable {K : PySem.W.Frag} {σ : L2.St} {B H : Hp} {L : List Cell} {te : TE} {a : Addr} {ns : List Int} {Q : VK}
theorem g_step0 (h : te σ H (rStep K Q)) : tStep0 K te σ H Q := h
theorem pick_int (ns : List Int) : ∀ js : List Nat, js.filterMap ((ns.map V.int)[·]?) = (js.filterMap (ns[·]?)).map V.int
  | [] => rfl
  | j :: js => by
    have ih := pick_int ns js
    cases e : ns[j]? with
    | none => rw [List.filterMap_cons_none (by rw [List.getElem?_map, e]; rfl), List.filterMap_cons_none e, ih]
    | some n => rw [List.filterMap_cons_some (b := V.int n) (by rw [List.getElem?_map, e]; rfl), List.filterMap_cons_some e, ih]; rfl
theorem pick_mem {ns : List Int} {js : List Nat} {n : Int} (h : n ∈ js.filterMap (ns[·]?)) : n ∈ ns := by
  obtain ⟨j, _, e⟩ := List.mem_filterMap.mp h
  exact List.mem_of_getElem? e
theorem pick_nd {ns : List Int} {js : List Nat} (h : ns.Nodup) (hj : js.Pairwise (· < ·)) : (js.filterMap (ns[·]?)).Nodup := by
  unfold List.Nodup
  refine List.pairwise_filterMap.mpr (hj.imp ?_)
  intro i j hij x hx y hy e
  subst e
  obtain ⟨h1, e1⟩ := List.getElem?_eq_some_iff.mp hx
  obtain ⟨h2, e2⟩ := List.getElem?_eq_some_iff.mp hy
  have := List.pairwise_iff_getElem.mp h i j h1 h2 hij
  rw [e1, e2] at this
  exact this rfl
/-- every so many of a list of numbers: some of them, none twice where none stood twice -/
theorem d_step (w : W B L H) (h : SqL K H a (ns.map V.int)) (q : ∀ (ms : List Int) p B' H', (∀ n ∈ ms, n ∈ ns) → (ns.Nodup → ms.Nodup) → ms.length ≤ ns.length → H p = none → Same B B' → B' p = some (.lst (ms.map V.int)) → W B' L H' → Q (.ref p) H') : rStep K Q (.ref a) H := by
  refine ⟨a, _, rfl, h, fun js p hj hl hp => ?_⟩
  rw [pick_int] at hl ⊢
  rw [List.length_map, List.length_map] at hl
  exact q _ p _ _ (fun n => pick_mem) (fun hn => pick_nd hn hj) hl hp (same_new (w.freeB hp)) upd_same (w.newB hp _)
end
section
variable {K : PySem.W.Frag} {σ : L2.St} {B H : Hp} {L : List Cell} {te : TE} {a : Addr} {xs : List V} {Q : VK}
def rRevL (K : PySem.W.Frag) (Q : VK) (x : V) (H1 : Hp) : Prop := ∃ a xs, x = .ref a ∧ SqL K H1 a xs ∧ ∀ p, H1 p = none → Q (.ref p) (upd H1 p (.lst xs.reverse))
theorem g_revL (h : te σ H (rRevL K Q)) : tRevL K te σ H Q := h
theorem d_revL (w : W B L H) (h : SqL K H a xs) (q : ∀ p B' H', H p = none → Same B B' → B' p = some (.lst xs.reverse) → W B' L H' → Q (.ref p) H') : rRevL K Q (.ref a) H :=
  ⟨a, xs, rfl, h, fun p hp => q p _ _ hp (same_new (w.freeB hp)) upd_same (w.newB hp _)⟩
end
end Z

/-! Z9: dicts with whole numbers as keys; enumerate. -/
namespace Z
open PySem PySem.Spec PyProof.Rows L2
/-- the keys of a dict, in their order -/
def Ks (kvs : List (Key × V)) (ns : List Int) : Prop := kvs.map (·.1) = ns.map Sum.inl
section
variable {kvs : List (Key × V)} {ns : List Int} {n : Int} {v : V}
theorem Ks.nil : Ks [] [] := rfl
theorem Ks.len (h : Ks kvs ns) : kvs.length = ns.length := by
  have e := congrArg List.length h
  rwa [List.length_map, List.length_map] at e
theorem inl_mem {ns : List Int} {n : Int} : (Sum.inl n : Key) ∈ ns.map Sum.inl ↔ n ∈ ns := by
  rw [List.mem_map]
  constructor
  · rintro ⟨m, h, e⟩; cases e; exact h
  · exact fun h => ⟨n, h, rfl⟩
theorem Ks.isSome (h : Ks kvs ns) : (valV kvs (Sum.inl n)).isSome = decide (n ∈ ns) := by
  cases e : valV kvs (Sum.inl n) with
  | none =>
    have h1 := valV_not e
    rw [h, inl_mem] at h1
    exact (decide_eq_false h1).symm
  | some v =>
    have h1 := valV_in e
    rw [h, inl_mem] at h1
    exact (decide_eq_true h1).symm
theorem Ks.some (h : Ks kvs ns) (hn : n ∈ ns) : ∃ v, valV kvs (Sum.inl n) = some v := by
  have e := h.isSome (n := n)
  rw [decide_eq_true hn] at e
  exact Option.isSome_iff_exists.mp e
theorem Ks.none (h : Ks kvs ns) (hn : n ∉ ns) : valV kvs (Sum.inl n) = none := by
  have e := h.isSome (n := n)
  rw [decide_eq_false hn] at e
  cases e2 : valV kvs (Sum.inl n) with
  | none => rfl
  | some u => rw [e2] at e; cases e
theorem Ks.new (h : Ks kvs ns) (hn : n ∉ ns) : Ks (putK kvs (Sum.inl n) v) (ns ++ [n]) := by
  rw [putK_new v (h.none hn)]
  unfold Ks at h ⊢
  rw [List.map_append, h, List.map_append]
  rfl
theorem Ks.old (h : Ks kvs ns) (hn : n ∈ ns) : Ks (putK kvs (Sum.inl n) v) ns := by
  have e : (kvs.any fun kv => decide (kv.1 = Sum.inl n)) = true := by rw [valV_any, h.isSome, decide_eq_true hn]
  unfold Ks putK at *
  rw [if_pos e, List.map_map, ← h]
  refine List.map_congr_left fun p _ => ?_
  show (if p.1 = Sum.inl n then (p.1, v) else p).1 = p.1
  split <;> rfl
theorem Ks.drop : ∀ {kvs : List (Key × V)} {ns : List Int}, Ks kvs ns → Ks (dropK kvs (Sum.inl n)) (ns.filter fun m => !decide (m = n))
  | [], [], _ => rfl
  | [], _ :: _, h => nomatch h
  | _ :: _, [], h => nomatch h
  | p :: r, m :: ms, h => by
    unfold Ks at h
    rw [List.map_cons, List.map_cons] at h
    injection h with h1 h2
    have ih := Ks.drop (show Ks r ms from h2)
    by_cases e : m = n
    · subst e
      rw [dropK_pos h1, List.filter_cons_of_neg (by simp)]
      exact ih
    · rw [dropK_neg (by rw [h1]; intro z; cases z; exact e rfl), List.filter_cons_of_pos (by simpa using e)]
      unfold Ks at ih ⊢
      rw [List.map_cons, List.map_cons, h1, ih]
end
section
variable {K : PySem.W.Frag} {σ : L2.St} {H : Hp} {Q : VK} {td ty tx : TE} {a : Addr} {kvs : List (Key × V)} {n : Int} {v z : V}
def rDPop1 (Q : VK) (ty : TE) (σ : L2.St) (x : V) (H1 : Hp) : Prop := ∃ a, x = .ref a ∧ IsD H1 a ∧ ty σ H1 fun y H2 => ∃ kvs k v, H2 a = some (.dK kvs) ∧ y = kV k ∧ valV kvs k = some v ∧ Q v (upd H2 a (.dK (dropK kvs k)))
def rDP1 (Q : VK) (a : Addr) (y : V) (H2 : Hp) : Prop := ∃ kvs k v, H2 a = some (.dK kvs) ∧ y = kV k ∧ valV kvs k = some v ∧ Q v (upd H2 a (.dK (dropK kvs k)))
theorem g_dpop1 (h : td σ H (rDPop1 Q ty σ)) : tDPop1 td ty σ H Q := h
theorem r_dpop1 (h : IsD H a) (q : ty σ H (rDP1 Q a)) : rDPop1 Q ty σ (.ref a) H := ⟨a, rfl, h, q⟩
theorem r_dp1 (h : H a = some (.dK kvs)) (e : valV kvs (Sum.inl n) = some v) (q : Q v (upd H a (.dK (dropK kvs (Sum.inl n))))) : rDP1 Q a (.int n) H := ⟨kvs, Sum.inl n, v, h, rfl, e, q⟩
theorem isD_of (h : H a = some (.dK kvs)) : IsD H a := .inl ⟨kvs, .inl h⟩
end
section
variable {K : PySem.W.Frag} {σ : L2.St} {H : Hp} {D : Ends} {tb : TS} {g : TG} {R : It → Hp → Prop} {ta : TA} {a : Addr} {xs : List V}
def rEnum (K : PySem.W.Frag) (R : It → Hp → Prop) (vs : List V) (H1 : Hp) : Prop := ∃ a xs, vs = [.ref a] ∧ SqL K H1 a xs ∧ R (Ite K a) H1
theorem g_enum (h : ta σ H (rEnum K R)) : iEnum K ta σ H R := h
theorem r_enum (h : SqL K H a xs) (q : R (Ite K a) H) : rEnum K R [.ref a] H := ⟨a, xs, rfl, h, q⟩
theorem FOR.enum (Pv : Nat → L2.St → Hp → Prop) (h0 : Pv 0 σ H) (hl : ∀ i σ H, i ≤ xs.length → Pv i σ H → SqL K H a xs)
    (hs : ∀ i x σ H T, xs[i]? = some x → Pv i σ H → H T = none → g (.ref T) σ (upd H T (.tup [.int (i : Nat), x])) fun σ2 H2 => tb { D with nx := Pv (i + 1), ct := Pv (i + 1), bk := D.nx } σ2 H2) (hd : ∀ σ H, Pv xs.length σ H → D.nx σ H) : FOR (Ite K a) g tb D σ H := by
  refine ⟨fun i m σ H => m + i = xs.length ∧ Pv i σ H, ⟨xs.length, by omega, h0⟩, fun i m σ H ⟨hm, p⟩ => ?_⟩
  have hq := hl i σ H (by omega) p
  by_cases c : i = xs.length
  · subst c
    exact .inl ⟨⟨xs, hq, Nat.le_refl _⟩, hd _ _ p⟩
  · have hi : i < xs.length := by omega
    refine .inr ⟨⟨xs, xs[i], hq, List.getElem?_eq_getElem hi⟩, Pv (i + 1), fun σ' H' h' => ⟨m - 1, by omega, by omega, h'⟩, fun x H' hy => ?_⟩
    obtain ⟨T, y, rfl, hT, rfl, hx⟩ := hy
    exact hs i y σ H T (hx _ hq) p hT
end
section
variable {K : PySem.W.Frag} {B H : Hp} {L : List Cell} {Q : VK} {a : Addr} {kvs : List (Key × V)} {ns : List Int}
theorem r_sortD (w : W B L H) (h : H a = some (.dK kvs)) (ks : Ks kvs ns) (q : ∀ (ms : List Int) (p : Addr) (B' H' : Hp), ms.Perm ns → ms.Pairwise (· ≤ ·) → Same B B' → B' p = some (.lst (ms.map V.int)) → W B' L H' → Q (.ref p) H') : rSortDI [.ref a] H Q :=
  ⟨a, kvs, ns, rfl, .inl h, ks, fun ms p h1 h2 hn => q ms p _ _ h1 h2 (same_new (w.freeB hn)) upd_same (w.newB hn _)⟩
end
end Z

/-! Z12: exceptions of the program's own classes: made, raised, caught, asked. -/
namespace Z
open PySem PySem.Spec PyProof.Rows L2
/-- what the written part says of an exception's class -/
structure XC (K : PySem.W.Frag) (C : Addr) : Prop where
  ox : OexC K C
  ex : ExcC K C
  sl : PySem.W.subIn K (.ref C) (.ref C) = some true
section
variable {K : PySem.W.Frag} {A B C : Addr} {b : Bool}
theorem XC.xf (h : XC K C) : XfC K C := ⟨h.ex.hg, h.ex.hk, h.ex.hs, h.ex.hd⟩
theorem XC.exm (h : XC K C) (s : PySem.W.subIn K (.ref A) (.ref C) = some b) : PySem.W.exmOne K (.ref A) (.ref C) = some b := PySem.W.exm_ref h.ex.hs h.ex.hd h.ox.tyC s
theorem XC.kit (hA : XC K A) (h : XC K C) (s : PySem.W.subIn K (.ref A) (.ref C) = some b) : PySem.W.kitOne K (.ref A) (.ref C) = some b := by
  obtain ⟨cd, hc, _⟩ := PySem.W.any_some h.ex.hd
  unfold PySem.W.kitOne
  by_cases e : A = C
  · subst e
    rw [hA.sl] at s
    cases s
    simp
  · have e2 : (Value.ref A == Value.ref C) = false := by
      refine Bool.eq_false_iff.mpr fun q => e (Value.ref.inj (beq_iff_eq.mp q))
    rw [e2, if_neg Bool.false_ne_true]
    show (if ((PySem.W.clsIn K C).isSome && PySem.W.typeIn K (.ref C) == some (.type "type")) = true then PySem.W.subIn K (.ref A) (.ref C) else none) = some b
    have e3 : ((PySem.W.clsIn K C).isSome && PySem.W.typeIn K (.ref C) == some (.type "type")) = true := by rw [hc, h.ox.tyC] <;> rfl
    rw [if_pos e3, s]
theorem kitVE (s : PySem.W.subIn K (.ref A) (.type "ValueError") = some b) : PySem.W.kitOne K (.ref A) (.type "ValueError") = some b := by
  unfold PySem.W.kitOne
  have e2 : (Value.ref A == Value.type "ValueError") = false := Bool.eq_false_iff.mpr fun q => nomatch (beq_iff_eq.mp q)
  rw [e2, if_neg Bool.false_ne_true]
  have e3 : PySem.W.kitMeta "ValueError" = true := by decide +kernel
  show (if PySem.W.kitMeta "ValueError" = true then PySem.W.subIn K (.ref A) (.type "ValueError") else none) = some b
  rw [if_pos e3, s]
end
/-! ### isinstance(e, c), e.f in a suite -/
def rIsX (K : PySem.W.Frag) (a : Addr) (cls : Value) (d : Option Addr) : List V → Hp → VK → Prop := fun xs H Q => ∃ (D : Addr) (c : V) (cv : Value) (b : Bool), xs = [.ref a, c] ∧ cls = .ref D ∧ XC K D ∧ (d = none ∨ ∃ dd fs, d = some dd ∧ H dd = some (.xd fs)) ∧ (∀ u, RelV c u → u = cv) ∧ PySem.W.kitOne K (.ref D) cv = some b ∧ Q (.bl b) H
theorem call_isX {X : Cx} {a : Addr} {oe : Obj} {cls : Value} {d : Option Addr} {pn : List (Addr × Obj)} (hz : Zc cls d oe) (hf : ∃ vs, oe.data = .fields vs) : CallR (X.suite a ((a, oe) :: pn)) (.builtin "isinstance") (rIsX X.K a cls d) := by
  intro pins s σ H xs us Q I r h
  obtain ⟨D, c, cv, b, rfl, rfl, C, hd, hcv, e, q⟩ := h
  cases r with
  | cons rx rr =>
    cases rr with
    | cons rt rr =>
      cases rr
      cases rx
      have ec := hcv _ rt
      subst ec
      obtain ⟨hget, _⟩ := I.pin (a, oe) (List.mem_append.mpr (.inl List.mem_cons_self))
      obtain ⟨vs, hv⟩ := hf
      have hcl : (PySem.W.clsIn X.K D).isSome = true := by
        obtain ⟨cd, hc, _⟩ := PySem.W.any_some C.ex.hd
        rw [hc]
        rfl
      obtain ⟨od, J⟩ : ∃ od : Option Obj, PySem.W.InstAt s.heap a oe D od := by
        rcases hd with rfl | ⟨dd, fs, rfl, ed⟩
        · refine ⟨none, ?_⟩
          obtain ⟨oc, od, oda, osl⟩ := oe
          obtain ⟨h1, h2⟩ := hz
          dsimp only at h1 h2 hv
          subst h1 h2 hv
          exact ⟨hget, rfl, rfl, trivial⟩
        · have hx : ObjOk X.prog X.w H s.heap dd (.xd fs) := I.hok dd _ ed
          obtain ⟨mA, hns, hr⟩ := hx
          obtain ⟨od, ho, hl⟩ := lookIn_ns hns
          exact ⟨some od, hget, hz.1, by unfold PySem.W.notCls; rw [hv] <;> rfl, by rw [hz.2]; exact ho⟩
      exact PySem.W.kia_one (PySem.W.kitx_exc hcl C.ex.hg C.ex.hk C.ex.hs C.ex.ha C.ex.hn C.ex.ht C.ex.hm) I.kIn J e (fun z => nomatch z) fun tk => ⟨.bl b, H, I.kept (t' := tk) fun _ _ z => z, rfl, q⟩
def rXf (K : PySem.W.Frag) (a : Addr) (cls : Value) (d : Option Addr) (f : Str) (Q : VK) (x : V) (H1 : Hp) : Prop := x = .ref a ∧ ∃ (C dd : Addr) (fs : List (Str × V)) (v : V), cls = .ref C ∧ XC K C ∧ PySem.W.findIn K (.ref C) f = some none ∧ d = some dd ∧ H1 dd = some (.xd fs) ∧ fs.lookup f = some v ∧ Q v H1
def tXfA (K : PySem.W.Frag) (a : Addr) (cls : Value) (d : Option Addr) (f : Str) (te : TE) : TE := fun σ H Q => te σ H (rXf K a cls d f Q)
theorem pe_xfA {X : Cx} {a : Addr} {oe : Obj} {cls : Value} {d : Option Addr} {pn : List (Addr × Obj)} {e : Expr} {te : TE} {pos : Pos} {n : Str}
    (hz : Zc cls d oe) (hf : ∃ vs, oe.data = .fields vs) (he : PE (X.suite a ((a, oe) :: pn)) e te) (hb : attributeBase e n X.env (eval e X.env) = eval e X.env := by rfl) :
    PE (X.suite a ((a, oe) :: pn)) (.Attribute e n pos) (tXfA X.K a cls d n te) := by
  refine ⟨fun pins s σ H Q I h => ?_⟩
  refine attr_of hb (thn (he.run pins s σ H _ I h) fun u s1 hh => ?_)
  obtain ⟨x, H1, I1, rx, ex, C, dd, fs, v, ec, T, hno, ed, ea, l, q⟩ := hh
  subst ex
  obtain rfl : u = Value.ref a := rx
  subst ec
  subst ed
  obtain ⟨ha, _⟩ := I1.pin (a, oe) (List.mem_append_left _ List.mem_cons_self)
  obtain ⟨vs, hd⟩ := hf
  have hx : ObjOk X.prog X.w H1 s1.heap dd (.xd fs) := I1.hok dd _ ea
  obtain ⟨mA, hns, hr⟩ := hx
  obtain ⟨od, ho, hl⟩ := lookIn_ns hns
  obtain ⟨u, hu, ru⟩ := RelO.some_of (v := v) (o := mA n) (by rw [← l]; exact hr n)
  have J : PySem.W.InstAt s1.heap a oe C (some od) := ⟨ha, hz.1, by unfold PySem.W.notCls; rw [hd] <;> rfl, by rw [hz.2]; exact ho⟩
  exact HandSPX.exc_get I1.kIn J T.ex.hg T.ex.hk T.ex.hs (PySem.W.findObj_own T.ex.hd hno rfl (by rw [hl, hu])) (handed_of ru) ⟨v, H1, I1.tok _, ru, q⟩
/-! ### calls in a try's body -/
section
variable {X : Cx} {CX : CXT} {k : Nat} {f C : Addr} {fd : FuncData} {ps : List Str} {sp : Sp} {E : L2.St → XK} {x m : Str} {p pos apos : Pos} {e o : Expr} {es : List Expr} {ta : TE} {t : TA} {ds : List Value} {dvs : List V}
theorem run_fnW {pins : List (Addr × Obj)} {σ : L2.St} {H : Hp} {s : Shared} {Q : VK} {us : List Value} {vs : List V} (F : FnOk X.prog X.w X.K X.mg X.base CX k f fd ps sp) (hr : Room k X.A) (hb : Binds X.K fd ps ds) (hd : Vals dvs ds) (hx : PassesAt CX X σ (E σ))
    (I : Inv X pins σ H s) (r : Vals vs us) (h : sp (vs ++ dvs) H Q (E σ)) : wpAny (model X.prog X.w) X.A (call (.ref f) us) (EP X pins σ Q) X.xe s := by
  have r2 : Vals (vs ++ dvs) (us ++ ds) := r.append hd
  have hl : (us ++ ds).length = ps.length := by rw [← r2.length]; exact F.len _ _ _ _ h
  refine wpAny_call (codeAny_mono (F.run X.A X.stack s H ⟨us, []⟩ (us ++ ds) (vs ++ dvs) Q (E σ) hr I.env0 (hb s us I.kIn hl) r2 h) fun r s' hq => ?_)
  cases r with
  | error e => exact hx pins H s e s' I hq
  | ok fl =>
    cases fl with
    | ret u => exact I.after hq
    | next => exact False.elim hq
    | brk => exact False.elim hq
    | cont => exact False.elim hq
def tCallW (sp : Sp) (dvs : List V) (E : L2.St → XK) (t : TA) : TE := fun σ H Q => t σ H fun vs H1 => sp (vs ++ dvs) H1 Q (E σ)
def tMethW (C : Addr) (m : Str) (sp : Sp) (dvs : List V) (E : L2.St → XK) (ta : TE) (t : TA) : TE := fun σ H Q => ta σ H fun x H1 => rMe C m (t σ H1 fun vs H2 => sp (x :: (vs ++ dvs)) H2 Q (E σ)) x H1
theorem pe_callW (F : FnOk X.prog X.w X.K X.mg X.base CX k f fd ps sp) (hr : Room k X.A) (hg : Gl X x) (hm : X.mg x = some (.ref f)) (hk : PySem.W.keepIn X.K (.ref f) = true) (hb : Binds X.K fd ps ds) (hd : Vals dvs ds) (hx : ∀ σ, PassesAt CX X σ (E σ))
    (ha : PA X (e :: es) t) (hdb : (x == ("__debug__" : Str)) = false := by decide) (he : starEach (e :: es) X.env = (false, eval e X.env) :: starEach es X.env := by rfl) (hpl : (backTo pos (starEach es X.env)).any (·.1) = false := by rfl) :
    PE X (.Call (.Name x p) (e :: es) [] pos) (tCallW sp dvs E t) := by
  refine ⟨fun pins s σ H Q I h => ?_⟩
  refine wpAny_Call_Name_kw (ld_glob I hg hm ?_ hdb)
  refine PySem.W.callWith_K (h₀ := X.base) I.ok.mod.kin hk (thn (ha.run pos pins s σ H _ I h) fun us s1 ⟨vs, H1, I1, r, q⟩ => ⟨I1.kIn, ?_⟩) he hpl
  exact run_fnW F hr hb hd (hx σ) I1 r q
theorem pe_methW {pl : Sem Bool} (he : PE X o ta) (c : Cls X.K C) (hm : Meth X.K C m f) (F : FnOk X.prog X.w X.K X.mg X.base CX k f fd ps sp) (hr : Room k X.A) (hb : Binds X.K fd ps ds) (hd : Vals dvs ds) (hx : ∀ σ, PassesAt CX X σ (E σ)) (ha : PA X (e :: es) t)
    (hst : starEach (e :: es) X.env = (false, eval e X.env) :: starEach es X.env := by rfl) (hpl : (backTo pos (starEach es X.env)).any (·.1) = false := by rfl)
    (ht : eval (.Call (.Attribute o m apos) (e :: es) [] pos) X.env = (do
      let ov ← eval o X.env
      standAt apos.atName
      let (f, first) ← holding [ov] (getMethod ov m pl)
      callWith pos f first (backTo pos (starEach (e :: es) X.env)) (backToKw pos (keywordEach [] X.env))) := by rfl) :
    PE X (.Call (.Attribute o m apos) (e :: es) [] pos) (tMethW C m sp dvs E ta t) := by
  refine ⟨fun pins s σ H Q I h => ?_⟩
  refine PySem.W.methodCall_KW (pl := pl) (thn (he.run pins s σ H _ I h) fun u s1 ⟨x, H1, I1, rx, a, dx, fs, ex, ea, l, q⟩ => ?_) ht
  subst ex
  obtain rfl : u = Value.ref a := rx
  refine getmeth_ok I1 ea c hm l ?_
  refine PySem.W.callWith_K (first := [.ref a]) (h₀ := X.base) I.ok.mod.kin hm.kp (thn (ha.run pos pins s1 σ H1 _ I1 q) fun us s2 ⟨vs, H2, I2, r, q2⟩ => ⟨I2.kIn, ?_⟩) hst hpl
  exact run_fnW (us := .ref a :: us) (vs := .ref a :: vs) F hr hb hd (hx σ) I2 (.cons rfl r) q2
theorem pe_meth0W {pl : Sem Bool} (he : PE X o ta) (c : Cls X.K C) (hm : Meth X.K C m f) (F : FnOk X.prog X.w X.K X.mg X.base CX k f fd ps sp) (hr : Room k X.A) (hb : Binds X.K fd ps ds) (hd : Vals dvs ds) (hx : ∀ σ, PassesAt CX X σ (E σ))
    (ht : eval (.Call (.Attribute o m apos) [] [] pos) X.env = (do
      let ov ← eval o X.env
      standAt apos.atName
      let (f, first) ← holding [ov] (getMethod ov m pl)
      callWith pos f first (backTo pos (starEach [] X.env)) (backToKw pos (keywordEach [] X.env))) := by rfl) :
    PE X (.Call (.Attribute o m apos) [] [] pos) (tMethW C m sp dvs E ta tNil) := by
  refine ⟨fun pins s σ H Q I h => ?_⟩
  refine PySem.W.methodCall_KW (pl := pl) (thn (he.run pins s σ H _ I h) fun u s1 ⟨x, H1, I1, rx, a, dx, fs, ex, ea, l, q⟩ => ?_) ht
  subst ex
  obtain rfl : u = Value.ref a := rx
  refine getmeth_ok I1 ea c hm l ?_
  exact PySem.W.callWith_K0 (first := [.ref a]) I1.kIn hm.kp (run_fnW (us := [.ref a]) (vs := [.ref a]) F hr hb hd (hx σ) I1 (.cons rfl .nil) q)
end
/-! ### raise C(e), C's __init__ keeping one field -/
def rMkO (C : Addr) (sp : Sp) (dvs : List V) (Q : XK) (vs : List V) (H1 : Hp) : Prop := vs.length ≤ 1000 ∧ ∀ a, H1 a = none → sp (.ref a :: (vs ++ dvs)) (upd H1 a (exo a C none))
  (fun v H2 => v = .non ∧ ∃ (d : Addr) (fs : List (Str × V)), H2 a = some (exo a C (some d)) ∧ H2 d = some (exd d fs) ∧ H1 d = none ∧ Q (.ref C) (some d) (upd (del H2 a) d (.xd fs))) (fun _ _ _ => False)
def tRaiseO (C : Addr) (sp : Sp) (dvs : List V) (WW : WX) (ta : TA) : TS := fun _ σ H => ta σ H (rMkO C sp dvs fun cls d H' => WW cls d σ H')
section
variable {X : Cx} {WW : WX} {x : Str} {C fI : Addr} {k : Nat} {fd : FuncData} {ps : List Str} {sp : Sp} {ds : List Value} {dvs : List V} {CX : CXT} {e : Expr} {es : List Expr} {ta : TA} {p pos pos2 : Pos}
theorem ps_raiseO (hc : X.calm = true) (tk : Takes X WW) (T : XC X.K C) (iC : PySem.W.findIn X.K (.ref C) "__init__" = some (some (.ref fI))) (tI : PySem.W.typeIn X.K (.ref fI) = some (.type "function"))
    (F1 : FnOk X.prog X.w X.K X.mg X.base CX k fI fd ps sp) (hr : Room (k + 1) X.A) (hb : Binds X.K fd ps ds) (hd : Vals dvs ds) (hx : Passes CX X (fun _ _ _ => False)) (hg : Gl X x) (hm : X.mg x = some (.ref C)) (ha : PA X (e :: es) ta)
    (hdb : (x == ("__debug__" : Str)) = false := by decide) (he : starEach (e :: es) X.env = (false, eval e X.env) :: starEach es X.env := by rfl) (hpl : (backTo pos (starEach es X.env)).any (·.1) = false := by rfl) :
    PS X (.Raise (some (.Call (.Name x p) (e :: es) [] pos)) none pos2) (tRaiseO C sp dvs WW ta) :=
  ps_raise hc tk (pmk_oex T.ox iC tI F1 hr hb hd hx hg hm ha hdb he hpl)
end
section
variable {K : PySem.W.Frag} {σ : L2.St} {B H : Hp} {L : List Cell} {C a : Addr} {sp : Sp} {dvs : List V} {WW Wout : WX} {ta : TA} {te to : TE} {D : Ends} {Q : VK} {QX : XK} {f : Str} {v y : V} {cls c : Value} {d : Option Addr} {i : Nat} {ts : Addr → Value → Option Addr → TS} {tb : WX → TS} {P : Hp → Prop}
theorem g_raiseO (h : ta σ H (rMkO C sp dvs fun cls d H' => WW cls d σ H')) : tRaiseO C sp dvs WW ta D σ H := h
/-- the promise of an __init__ that keeps one field -/
def spX1 (C : Addr) (f : Str) : Sp := Sp2 fun x y H Q _ => ∃ a, x = .ref a ∧ H a = some (exo a C none) ∧ ∀ d, H d = none → d ≠ a → Q .non (upd (upd H d (exd d [(f, y)])) a (exo a C (some d)))
theorem r_raiseX1 (w : W B L H) (q : ∀ d B' H', Same B B' → B' d = some (.xd [(f, v)]) → W B' L H' → QX (.ref C) (some d) H') : rMkO C (spX1 C f) [] QX [v] H := by
  refine ⟨by simp, fun a ha => ⟨_, _, rfl, a, rfl, upd_same, fun d hd hda => ⟨rfl, d, [(f, v)], upd_same, by rw [upd_ne hda, upd_same], ?_, ?_⟩⟩⟩
  · rw [upd_ne hda] at hd; exact hd
  · have hd0 : H d = none := by rw [upd_ne hda] at hd; exact hd
    have e : upd (del (upd (upd (upd H a (exo a C none)) d (exd d [(f, v)])) a (exo a C (some d))) a) d (.xd [(f, v)]) = upd H d (.xd [(f, v)]) := by
      funext b
      by_cases hb : b = d
      · subst hb; rw [upd_same, upd_same]
      · rw [upd_ne hb, upd_ne hb]
        by_cases hb2 : b = a
        · subst hb2; rw [del_same, ha]
        · rw [del_ne hb2, upd_ne hb2, upd_ne hb, upd_ne hb2]
    rw [e]
    exact q d _ _ (same_new (w.freeB hd0)) upd_same (w.newB hd0 _)
def rOst (K : PySem.W.Frag) (f : Str) (P : Hp → Prop) (y x : V) (H2 : Hp) : Prop := ∃ a C : Addr, x = .ref a ∧ OexC K C ∧ PySem.W.findIn K (.ref C) f = some none ∧
  ((H2 a = some (exo a C none) ∧ ∀ dx, H2 dx = none → dx ≠ a → P (upd (upd H2 dx (exd dx [(f, y)])) a (exo a C (some dx)))) ∨
    ∃ (dx : Addr) (fs : List (Str × V)), H2 a = some (exo a C (some dx)) ∧ H2 dx = some (exd dx fs) ∧ fs.length ≤ 900 ∧ P (upd H2 dx (exd dx ((f, y) :: fs))))
theorem g_ost (h : te σ H fun y H1 => to σ H1 (rOst K f (D.nx σ) y)) : tOst K f to te D σ H := h
theorem r_ost (T : OexC K C) (hno : PySem.W.findIn K (.ref C) f = some none) (h : H a = some (exo a C none)) (q : ∀ dx, H dx = none → dx ≠ a → P (upd (upd H dx (exd dx [(f, y)])) a (exo a C (some dx)))) : rOst K f P y (.ref a) H :=
  ⟨a, C, rfl, T, hno, .inl ⟨h, q⟩⟩
def rVei (K : PySem.W.Frag) (Q : VK) (vs : List V) (H1 : Hp) : Prop := ∃ (a C : Addr) (ws : List V), vs = .ref a :: ws ∧ ws.length ≤ 1000 ∧ OexC K C ∧ H1 a = some (exo a C none) ∧ Q .non H1
theorem g_vei (h : ta σ H (rVei K Q)) : tVeI K ta σ H Q := h
theorem r_vei {ws : List V} (T : OexC K C) (hl : ws.length ≤ 1000) (h : H a = some (exo a C none)) (q : Q .non H) : rVei K Q (.ref a :: ws) H := ⟨a, C, ws, rfl, hl, T, h, q⟩
/-! ### try: .. except C as e: .. -/
def tTryAs (K : PySem.W.Frag) (c : Value) (i : Nat) (tb : WX → TS) (ts : Addr → Value → Option Addr → TS) (Wout : WX) : TS := fun D σ H => tb (wAs K c i ts Wout D) D σ H
theorem g_tryAs (h : tb (wAs K c i ts Wout D) D σ H) : tTryAs K c i tb ts Wout D σ H := h
theorem r_caught (hx : PySem.W.exmOne K cls c = some true) (h : ∀ a, H a = none → ts a cls d { nx := fun σ' H' => D.nx (σ'.set i none) H', rt := D.rt, bk := fun σ' H' => D.bk (σ'.set i none) H', ct := fun σ' H' => D.ct (σ'.set i none) H' } (σ.set i (some (.ref a))) H) : wAs K c i ts Wout D cls d σ H :=
  ⟨true, hx, fun _ => h, nofun⟩
theorem r_passed (hx : PySem.W.exmOne K cls c = some false) (h : Wout cls d σ H) : wAs K c i ts Wout D cls d σ H := ⟨false, hx, nofun, fun _ => h⟩
theorem g_xfA (h : te σ H (rXf K a cls d f Q)) : tXfA K a cls d f te σ H Q := h
theorem r_xf {fs : List (Str × V)} {dd : Addr} (T : XC K C) (hno : PySem.W.findIn K (.ref C) f = some none) (h : H dd = some (.xd fs)) (l : fs.lookup f = some v) (q : Q v H) : rXf K a (.ref C) (some dd) f Q (.ref a) H :=
  ⟨rfl, C, dd, fs, v, rfl, T, hno, rfl, h, l, q⟩
theorem r_isXC {fs : List (Str × V)} {dd A : Addr} {b : Bool} (TA : XC K A) (TC : XC K C) (s : PySem.W.subIn K (.ref A) (.ref C) = some b) (h : H dd = some (.xd fs)) (q : Q (.bl b) H) : rIsX K a (.ref A) (some dd) [.ref a, .ref C] H Q :=
  ⟨A, .ref C, .ref C, b, rfl, rfl, TA, .inr ⟨dd, fs, rfl, h⟩, fun u r => r, TA.kit TC s, q⟩
theorem r_isXV {fs : List (Str × V)} {dd A : Addr} {b : Bool} (TA : XC K A) (s : PySem.W.subIn K (.ref A) (.type "ValueError") = some b) (h : H dd = some (.xd fs)) (q : Q (.bl b) H) : rIsX K a (.ref A) (some dd) [.ref a, .ty "ValueError"] H Q :=
  ⟨A, .ty "ValueError", .type "ValueError", b, rfl, rfl, TA, .inr ⟨dd, fs, rfl, h⟩, fun u r => r, kitVE s, q⟩
theorem g_callW {E : L2.St → XK} {t : TA} (h : t σ H fun vs H1 => sp (vs ++ dvs) H1 Q (E σ)) : tCallW sp dvs E t σ H Q := h
theorem g_methW {E : L2.St → XK} {t : TA} {ta0 : TE} {m : Str} (h : ta0 σ H fun x H1 => rMe C m (t σ H1 fun vs H2 => sp (x :: (vs ++ dvs)) H2 Q (E σ)) x H1) : tMethW C m sp dvs E ta0 t σ H Q := h
end
end Z
namespace Z
open PySem PySem.Spec PyProof.Rows L2
section
variable {X : Cx} {x n : Str} {c : Value} {i : Nat} {body suite : List Stmt} {b₀ : Stmt} {np pos pos' : Pos} {tb : WX → TS} {ts : Addr → Value → Option Addr → TS} {Wout : WX}
theorem ps_tryAs (hs : X.stack = X.env :: X.outer) (hf : X.env.frame = some X.env.locals) (hN : X.N.Nodup) (hi : X.N[i]? = some n) (hln : X.env.kindOf n = some .local) (hc : Names X x c) (tk : Takes X Wout)
    (hb : ∀ (W : WX) (pn : List (Addr × Obj)) (xe : Value → Shared → Prop), Takes (X.tr pn xe) W → PassesOwn (model X.prog X.w) X.A X.env xe → PSs (X.tr pn xe) body (tb W))
    (hsu : ∀ (a : Addr) (oe : Obj) (cls : Value) (d : Option Addr) (pn : List (Addr × Obj)), Zc cls d oe → (∃ vs, oe.data = .fields vs) → PSs (X.suite a ((a, oe) :: pn)) (b₀ :: suite) (ts a cls d)) :
    PS X (.Try body [.ExceptHandler (some (.Name x np)) (some n) (b₀ :: suite) pos'] [] [] pos) (tTryAs X.K c i tb ts Wout) := ps_try_as hs hf hN hi hln hc tk hb hsu
end
end Z

/-! Z13: isinstance of an instance of an own class; texts. -/
namespace Z
open PySem PySem.Spec PyProof.Rows L2
structure IC (K : PySem.W.Frag) (C : Addr) : Prop where
  cl : Cls K C
  hd : PySem.W.hasDictIn K C = true
  ty : PySem.W.typeIn K (.ref C) = some (.type "type")
  ha : PySem.W.findIn K (.ref C) "__class__" = some (some (.builtin "object.__class__"))
  hn : PySem.W.specialIn K (.builtin "object.__class__") "__get__" = some (some (.builtin "getset_descriptor.__get__"))
  ht : PySem.W.takesIn K (.builtin "object.__class__") = some true
  hm : PySem.W.mroIn K C (.type "object") = some true
  sl : PySem.W.subIn K (.ref C) (.ref C) = some true
section
variable {K : PySem.W.Frag} {A C a dx : Addr} {b : Bool} {H : Hp} {Q : VK} {fs : List (Str × V)}
theorem kit_own (hA : IC K A) (h : IC K C) (s : PySem.W.subIn K (.ref A) (.ref C) = some b) : PySem.W.kitOne K (.ref A) (.ref C) = some b := by
  obtain ⟨cd, hc, _⟩ := PySem.W.any_some h.hd
  unfold PySem.W.kitOne
  by_cases e : A = C
  · subst e
    rw [hA.sl] at s
    cases s
    simp
  · have e2 : (Value.ref A == Value.ref C) = false := by
      refine Bool.eq_false_iff.mpr fun q => e (Value.ref.inj (beq_iff_eq.mp q))
    rw [e2, if_neg Bool.false_ne_true]
    show (if ((PySem.W.clsIn K C).isSome && PySem.W.typeIn K (.ref C) == some (.type "type")) = true then PySem.W.subIn K (.ref A) (.ref C) else none) = some b
    have e3 : ((PySem.W.clsIn K C).isSome && PySem.W.typeIn K (.ref C) == some (.type "type")) = true := by rw [hc, h.ty] <;> rfl
    rw [if_pos e3, s]
theorem r_isiO (h : H a = some (.ins A dx fs)) (hA : IC K A) (hC : IC K C) (s : PySem.W.subIn K (.ref A) (.ref C) = some b) (q : Q (.bl b) H) : rIsi K [.ref a, .ref C] H Q :=
  ⟨.ref a, .ref C, .ref A, .ref C, b, rfl, .own C, .base (.ins h hA.cl hA.ha hA.hn hA.ht hA.hm), kit_own hA hC s, q⟩
end
section
variable {X : Cx} {WW : WX} {x m : Str} {C : Addr} {j : Nat} {p p2 pos pos2 : Pos}
/-- raise C('..'), C without an __init__ of its own -/
def tRaise0 (C : Addr) (WW : WX) : TS := fun _ σ H => WW (.ref C) none σ H
theorem ps_raise0 (hc : X.calm = true) (tk : Takes X WW) (q : PySem.W.excIn X.K C PySem.HandSPX.veTail "ValueError.__new__" = true) (T : XC X.K C) (gC : X.mg x = some (.ref C)) (hg : Gl X x) (hdb : (x == ("__debug__" : Str)) = false := by decide) :
    PS X (.Raise (some (.Call (.Name x p) [.Constant (.str m) j p2] [] pos)) none pos2) (tRaise0 C WW) :=
  ps_raise hc tk (pmk_own PySem.F.excBase_ValueError q gC T.ox.kC (raises_own T.ox.exC T.ox.tyC) hg hdb)
end
section
variable {K : PySem.W.Frag} {σ : L2.St} {H : Hp} {C A a : Addr} {WW : WX} {D : Ends} {Q : VK} {b : Bool}
theorem g_raise0 (h : WW (.ref C) none σ H) : tRaise0 C WW D σ H := h
theorem r_isXC0 (TA : XC K A) (TC : XC K C) (s : PySem.W.subIn K (.ref A) (.ref C) = some b) (q : Q (.bl b) H) : rIsX K a (.ref A) none [.ref a, .ref C] H Q :=
  ⟨A, .ref C, .ref C, b, rfl, rfl, TA, .inl rfl, fun u r => r, TA.kit TC s, q⟩
theorem r_isXV0 (TA : XC K A) (s : PySem.W.subIn K (.ref A) (.type "ValueError") = some b) (q : Q (.bl b) H) : rIsX K a (.ref A) none [.ref a, .ty "ValueError"] H Q :=
  ⟨A, .ty "ValueError", .type "ValueError", b, rfl, rfl, TA, .inl rfl, fun u r => r, kitVE s, q⟩
end
/-! texts -/
theorem str_ext {a b : Str} (h : a.cps = b.cps) : a = b := by cases a; cases b; cases h; rfl
theorem str_assoc (a b c : Str) : a ++ b ++ c = a ++ (b ++ c) := str_ext (Array.append_assoc ..)
theorem str_len (i : Int) (h : i.natAbs.log2 < 1920) : ((toString i : String) : Str).length ≤ 1921 := PyProof.Rows.int_text_len_1921 h
theorem app_len (a b : Str) : (a ++ b).length = a.length + b.length := Array.size_append ..
section
variable {K : PySem.W.Frag} {H : Hp} {σ : L2.St} {a : Addr} {u v x : V} {n : Nat} {t1 t2 t3 : TG} {Q : L2.St → Hp → Prop}
theorem g_tup3 (h : SqT K H a [u, v, x]) (hn : n = 3) (q : t1 u σ H fun σ' H' => t2 v σ' H' fun σ' H' => t3 x σ' H' Q) : gTup K n (gCons t1 (gCons t2 (gCons t3 gNil))) (.ref a) σ H Q :=
  ⟨a, _, rfl, h, hn.symm, u, _, rfl, (show t1 u σ H fun σ' H' => gCons t2 (gCons t3 gNil) [v, x] σ' H' Q from by
    have e2 : (fun σ' H' => gNil [] σ' H' Q) = Q := by funext a b; exact propext ⟨fun h => h.2, fun h => ⟨rfl, h⟩⟩
    have e3 : (fun σ' H' => gCons t3 gNil [x] σ' H' Q) = fun σ' H' => t3 x σ' H' Q := by
      funext σ' H'
      refine propext ⟨fun ⟨v', r, e, h⟩ => ?_, fun h => ⟨x, [], rfl, ?_⟩⟩
      · cases e
        rwa [e2] at h
      · rwa [e2]
    have e4 : (fun σ' H' => gCons t2 (gCons t3 gNil) [v, x] σ' H' Q) = fun σ' H' => t2 v σ' H' fun σ' H' => t3 x σ' H' Q := by
      funext σ' H'
      refine propext ⟨fun ⟨v', r, e, h⟩ => ?_, fun h => ⟨v, [x], rfl, ?_⟩⟩
      · cases e
        rwa [e3] at h
      · rwa [e3]
    rw [e4]
    exact q)⟩
end
section
variable {K : PySem.W.Frag} {H : Hp} {σ : L2.St} {to te : TE} {Q : VK} {r : V → List V → Hp → VK → Prop} {z : Str} {p : Addr} {ys : List Str}
def rM1 (r : V → List V → Hp → VK → Prop) (te : TE) (σ : L2.St) (Q : VK) (x : V) (H1 : Hp) : Prop := (∃ a, x = .str a) ∧ te σ H1 fun y H2 => r x [y] H2 Q
theorem g_m1 (h : to σ H (rM1 r te σ Q)) : tM1 r to te σ H Q := h
theorem r_m1 (q : te σ H fun y H2 => r (.str z) [y] H2 Q) : rM1 r te σ Q (.str z) H := ⟨⟨z, rfl⟩, q⟩
theorem join3 (s a b c : Str) : Txt.join s [a, b, c] = a ++ s ++ b ++ s ++ c := by
  first | rfl | (unfold Txt.join glued; simp [str_assoc])
end
section
variable {X : Cx} {K : PySem.W.Frag} {e : Expr} {ta : TE} {f : Str} {pos : Pos}
/-- a field, read in a comprehension: the frame's K is told -/
theorem pe_fldK (he : PE X e ta) (hb : attributeBase e f X.env (eval e X.env) = eval e X.env) (hK : X.K = K) : PE X (.Attribute e f pos) (tFld K ta f) := by
  subst hK
  exact pe_fld he hb
end
end Z

/-! Mlv: leaves in plain Lean. -/
namespace Z
/-- the head of the i-th leaf -/
def hdL (ls : List (List Int)) (i : Nat) : Int := (ls.getD i []).headD 0
/-- how many leaves begin at a key or ahead of it, as long as they do so -/
def cnL (ls : List (List Int)) (key : Int) : Nat := (ls.takeWhile fun l => decide (l.headD 0 ≤ key)).length
def laL (ls : List (List Int)) (key : Int) : Nat := cnL ls key - 1
theorem cnL_le (key : Int) : ∀ ls : List (List Int), cnL ls key ≤ ls.length
  | [] => Nat.le_refl _
  | l :: ls => by
    unfold cnL
    rw [List.takeWhile_cons]
    have := cnL_le key ls
    unfold cnL at this
    split
    · simp only [List.length_cons]; omega
    · simp
theorem cnL_lt (key : Int) : ∀ (ls : List (List Int)) (i : Nat), i < cnL ls key → hdL ls i ≤ key
  | [], i, h => by simp [cnL] at h
  | l :: ls, i, h => by
    unfold cnL at h
    rw [List.takeWhile_cons] at h
    split at h
    · rename_i c
      cases i with
      | zero => simpa [hdL] using c
      | succ i =>
        have := cnL_lt key ls i (by unfold cnL; simp only [List.length_cons] at h; omega)
        simpa [hdL] using this
    · simp at h
theorem cnL_at (key : Int) : ∀ ls : List (List Int), cnL ls key < ls.length → key < hdL ls (cnL ls key)
  | [], h => by simp [cnL] at h
  | l :: ls, h => by
    unfold cnL at h ⊢
    rw [List.takeWhile_cons] at h ⊢
    split
    · rename_i c
      rw [if_pos c] at h
      have := cnL_at key ls (by unfold cnL; simp only [List.length_cons] at h; omega)
      unfold cnL at this
      simpa [hdL] using this
    · rename_i c
      simp [hdL] at c ⊢
      omega
/-- the heads do not fall -/
def HdUp (ls : List (List Int)) : Prop := ∀ i j, i ≤ j → j < ls.length → hdL ls i ≤ hdL ls j
theorem laL_of {ls : List (List Int)} {key : Int} {lo hi : Nat} (up : HdUp ls) (h1 : lo = 0 ∨ (lo < ls.length ∧ hdL ls lo ≤ key)) (h2 : hi = ls.length ∨ (hi < ls.length ∧ key < hdL ls hi)) (h3 : hi ≤ lo + 1) : lo = laL ls key := by
  have c1 := cnL_le key ls
  have c2 := cnL_lt key ls
  have c3 := cnL_at key ls
  have a : cnL ls key ≤ hi := by
    rcases h2 with rfl | ⟨h2, h4⟩
    · exact c1
    · rcases Nat.lt_or_ge hi (cnL ls key) with h | h
      · have := c2 hi h; omega
      · exact h
  unfold laL
  rcases h1 with rfl | ⟨h1, h4⟩
  · omega
  · rcases Nat.lt_or_ge lo (cnL ls key) with h | h
    · omega
    · have := c3 (by omega)
      have := up _ _ h h1
      omega
end Z

/-! Mlv2: what keeps leaves fit. -/
namespace Z
/-- two neighbours have five or more -/
def nbL : List (List Int) → Prop
  | a :: b :: r => 5 ≤ a.length + b.length ∧ nbL (b :: r)
  | _ => True
theorem nbL_tail {a : List Int} {r : List (List Int)} (h : nbL (a :: r)) : nbL r := by
  cases r with
  | nil => exact True.intro
  | cons b r => exact h.2
theorem nbL_app {a : List Int} {r : List (List Int)} : ∀ pre : List (List Int), nbL (pre ++ a :: r) ↔ nbL (pre ++ [a]) ∧ nbL (a :: r)
  | [] => by simp [nbL]
  | [x] => by show (5 ≤ _ ∧ nbL (a :: r)) ↔ (5 ≤ _ ∧ True) ∧ _; simp
  | x :: y :: pre => by
    have h := nbL_app (a := a) (r := r) (y :: pre)
    show (5 ≤ _ ∧ nbL ((y :: pre) ++ a :: r)) ↔ (5 ≤ _ ∧ nbL ((y :: pre) ++ [a])) ∧ _
    rw [h, and_assoc]
theorem nbL_end {a b : List Int} (hab : a.length ≤ b.length) : ∀ pre : List (List Int), nbL (pre ++ [a]) → nbL (pre ++ [b])
  | [], _ => True.intro
  | [x], h => ⟨by have := h.1; omega, True.intro⟩
  | x :: y :: pre, h => ⟨h.1, nbL_end hab (y :: pre) h.2⟩
theorem nbL_beg {a b : List Int} (hab : a.length ≤ b.length) : ∀ {r : List (List Int)}, nbL (a :: r) → nbL (b :: r)
  | [], _ => True.intro
  | _ :: _, h => ⟨by have := h.1; omega, h.2⟩
theorem nbL_get : ∀ {ls : List (List Int)}, nbL ls → ∀ i, i + 1 < ls.length → 5 ≤ (ls.getD i []).length + (ls.getD (i + 1) []).length
  | [], _, i, h => by simp at h
  | [_], _, i, h => by simp at h
  | a :: b :: r, hn, 0, _ => hn.1
  | a :: b :: r, hn, i + 1, h => nbL_get (ls := b :: r) hn.2 i (by simpa using h)
/-- join_at at a place from nought on -/
def jnL' (ls : List (List Int)) (k : Nat) : List (List Int) := if k + 1 < ls.length ∧ (ls.getD k [] ++ ls.getD (k + 1) []).length < 5 then (ls.set k (ls.getD k [] ++ ls.getD (k + 1) [])).eraseIdx (k + 1) else ls
structure LInv (ls : List (List Int)) : Prop where
  ne : ∀ l ∈ ls, l ≠ []
  l8 : ∀ l ∈ ls, l.length ≤ 8
  up : ∀ l ∈ ls, l.Pairwise (· < ·)
  far : ls.Pairwise fun a b => ∀ x ∈ a, ∀ y ∈ b, x < y
  nb : nbL ls
theorem LInv.nil : LInv [] := ⟨by simp, by simp, by simp, by simp, True.intro⟩
theorem LInv.srt {ls : List (List Int)} (h : LInv ls) : ls.flatten.Pairwise (· < ·) := List.pairwise_flatten.mpr ⟨h.up, h.far⟩
theorem getD_mem {ls : List (List Int)} {i : Nat} (h : i < ls.length) : ls.getD i [] ∈ ls := by
  rw [List.getD_eq_getElem?_getD, List.getElem?_eq_getElem h]
  exact List.getElem_mem h
theorem getD_get {ls : List (List Int)} {i : Nat} (h : i < ls.length) : ls.getD i [] = ls[i] := by
  rw [List.getD_eq_getElem?_getD, List.getElem?_eq_getElem h]
  rfl
theorem hd_mem {ls : List (List Int)} (h : LInv ls) {i : Nat} (hi : i < ls.length) : hdL ls i ∈ ls.getD i [] := by
  have := h.ne _ (getD_mem hi)
  unfold hdL
  cases e : ls.getD i [] with
  | nil => exact absurd e this
  | cons x r => exact List.mem_cons_self ..
theorem hd_le {ls : List (List Int)} (h : LInv ls) {i : Nat} (hi : i < ls.length) {x : Int} (hx : x ∈ ls.getD i []) : hdL ls i ≤ x := by
  have hp := h.up _ (getD_mem hi)
  unfold hdL
  cases e : ls.getD i [] with
  | nil => rw [e] at hx; cases hx
  | cons y r =>
    rw [e] at hx hp
    show y ≤ x
    rcases List.mem_cons.mp hx with rfl | hx
    · exact Int.le_refl _
    · exact Int.le_of_lt ((List.pairwise_cons.mp hp).1 x hx)
theorem far_at {ls : List (List Int)} (h : LInv ls) {i j : Nat} (hij : i < j) (hj : j < ls.length) {x y : Int} (hx : x ∈ ls.getD i []) (hy : y ∈ ls.getD j []) : x < y := by
  have hi : i < ls.length := by omega
  rw [getD_get hi] at hx
  rw [getD_get hj] at hy
  exact List.pairwise_iff_getElem.mp h.far i j hi hj hij x hx y hy
theorem LInv.hdUp {ls : List (List Int)} (h : LInv ls) : HdUp ls := fun i j hij hj => by
  rcases Nat.lt_or_ge i j with c | c
  · exact Int.le_of_lt (far_at h c hj (hd_mem h (by omega)) (hd_mem h hj))
  · have : i = j := by omega
    subst this
    exact Int.le_refl _
theorem LInv.neD {ls : List (List Int)} (h : LInv ls) (i : Nat) (hi : i < ls.length) : ls.getD i [] ≠ [] := h.ne _ (getD_mem hi)
theorem split3 {α : Type} (ls : List α) (i : Nat) (h : i < ls.length) : ls = ls.take i ++ ls[i] :: ls.drop (i + 1) := by
  rw [List.getElem_cons_drop h, List.take_append_drop]
theorem set3 {α : Type} (ls : List α) (i : Nat) (m : α) (h : i < ls.length) : ls.set i m = ls.take i ++ m :: ls.drop (i + 1) := by
  rw [List.set_eq_take_append_cons_drop, if_pos h]
theorem erase3 {α : Type} (ls : List α) (i : Nat) : ls.eraseIdx i = ls.take i ++ ls.drop (i + 1) := List.eraseIdx_eq_take_drop_succ ..
/-- where a key's leaf stands: what lies ahead is less, what lies behind is greater -/
theorem la_ahead {ls : List (List Int)} (h : LInv ls) {key : Int} {j : Nat} (hj : j < laL ls key) {x : Int} (hx : x ∈ ls.getD j []) : x < key := by
  have c1 := cnL_le key ls
  unfold laL at hj
  have := cnL_lt key ls (cnL ls key - 1) (by omega)
  have := far_at h (show j < cnL ls key - 1 by omega) (by omega) hx (hd_mem h (by omega))
  omega
theorem la_behind {ls : List (List Int)} (h : LInv ls) {key : Int} {j : Nat} (hj : laL ls key < j) (hl : j < ls.length) {x : Int} (hx : x ∈ ls.getD j []) : key < x := by
  unfold laL at hj
  have c3 := cnL_at key ls (by omega)
  have h1 := h.hdUp (cnL ls key) j (by omega) hl
  have h2 := hd_le h hl hx
  omega
theorem mem_fl {ls : List (List Int)} {x : Int} : x ∈ ls.flatten ↔ ∃ j, j < ls.length ∧ x ∈ ls.getD j [] := by
  rw [List.mem_flatten]
  constructor
  · rintro ⟨l, hl, hx⟩
    obtain ⟨j, hj, rfl⟩ := List.getElem_of_mem hl
    exact ⟨j, hj, by rw [getD_get hj]; exact hx⟩
  · rintro ⟨j, hj, hx⟩
    exact ⟨_, getD_mem hj, hx⟩
theorem la_mem {ls : List (List Int)} (h : LInv ls) (key : Int) : (ls ≠ [] ∧ key ∈ ls.getD (laL ls key) []) ↔ key ∈ ls.flatten := by
  rw [mem_fl]
  constructor
  · rintro ⟨hn, hk⟩
    refine ⟨_, ?_, hk⟩
    have := cnL_le key ls
    have : 0 < ls.length := List.length_pos_iff.mpr hn
    unfold laL
    omega
  · rintro ⟨j, hj, hx⟩
    refine ⟨fun e => by rw [e] at hj; simp at hj, ?_⟩
    rcases Nat.lt_trichotomy j (laL ls key) with c | c | c
    · have := la_ahead h c hx; omega
    · rw [← c]; exact hx
    · have := la_behind h c hj hx; omega
theorem LInv.of {ls : List (List Int)} (ne : ∀ l ∈ ls, l ≠ []) (l8 : ∀ l ∈ ls, l.length ≤ 8) (s : ls.flatten.Pairwise (· < ·)) (nb : nbL ls) : LInv ls :=
  ⟨ne, l8, (List.pairwise_flatten.mp s).1, (List.pairwise_flatten.mp s).2, nb⟩
theorem set_mid {α : Type} {x a : α} {r : List α} : ∀ pre : List α, (pre ++ a :: r).set pre.length x = pre ++ x :: r
  | [] => rfl
  | y :: pre => by rw [List.cons_append, List.length_cons, List.set_cons_succ, set_mid pre, List.cons_append]
theorem erase_mid {α : Type} {x b : α} {r : List α} : ∀ pre : List α, (pre ++ x :: b :: r).eraseIdx (pre.length + 1) = pre ++ x :: r
  | [] => rfl
  | y :: pre => by rw [List.cons_append, List.length_cons, List.eraseIdx_cons_succ, erase_mid pre, List.cons_append]
/-- a joined pair -/
theorem jn_two {pre r : List (List Int)} {a b : List Int} : jnL' (pre ++ a :: b :: r) pre.length = if (a ++ b).length < 5 then pre ++ (a ++ b) :: r else pre ++ a :: b :: r := by
  unfold jnL'
  have e1 : (pre ++ a :: b :: r).getD pre.length [] = a := by simp [List.getD_eq_getElem?_getD]
  have e2 : (pre ++ a :: b :: r).getD (pre.length + 1) [] = b := by simp [List.getD_eq_getElem?_getD]
  rw [e1, e2]
  by_cases c : (a ++ b).length < 5
  · rw [if_pos ⟨by simp, c⟩, if_pos c, set_mid, erase_mid]
  · rw [if_neg fun h => c h.2, if_neg c]
theorem jn_last {pre : List (List Int)} {a : List Int} : jnL' (pre ++ [a]) pre.length = pre ++ [a] := by
  unfold jnL'
  rw [if_neg (by simp)]
theorem nb_join {pre r : List (List Int)} {a b : List Int} (h1 : nbL (pre ++ [a])) (h2 : nbL (b :: r)) : nbL (jnL' (pre ++ a :: b :: r) pre.length) := by
  rw [jn_two]
  by_cases c : (a ++ b).length < 5
  · rw [if_pos c]
    exact (nbL_app pre).mpr ⟨nbL_end (by simp) pre h1, nbL_beg (by simp) h2⟩
  · rw [if_neg c]
    rw [List.length_append] at c
    exact (nbL_app pre).mpr ⟨h1, by omega, h2⟩
theorem fl_jn {ls : List (List Int)} {k : Nat} : (jnL' ls k).flatten = ls.flatten := by
  by_cases h : k + 1 < ls.length
  · have e := split3 ls k (by omega)
    have e2 := split3 (ls.drop (k + 1)) 0 (by rw [List.length_drop]; omega)
    rw [List.take_zero, List.nil_append] at e2
    rw [e2] at e
    have hk : (ls.take k).length = k := by rw [List.length_take]; omega
    generalize ls.take k = pre at e hk
    generalize ls[k] = a at e
    generalize (ls.drop (k + 1))[0]'_ = b at e
    subst hk
    rw [e, jn_two]
    split <;> simp
  · unfold jnL'
    rw [if_neg fun c => h c.1]
def hsL (ls : List (List Int)) (key : Int) : Bool := decide (ls ≠ [] ∧ key ∈ ls.getD (laL ls key) [])
theorem hsL_eq {ls : List (List Int)} (h : LInv ls) (key : Int) : hsL ls key = decide (key ∈ ls.flatten) := by
  unfold hsL
  rw [decide_eq_decide]
  exact la_mem h key
theorem laL_lt {ls : List (List Int)} {key : Int} (h : ls ≠ []) : laL ls key < ls.length := by
  have := cnL_le key ls
  have : 0 < ls.length := List.length_pos_iff.mpr h
  unfold laL
  omega
/-- what an added key makes of the leaves -/
def AddR (ls : List (List Int)) (key : Int) (ls' : List (List Int)) : Prop := (ls = [] ∧ ls' = [[key]]) ∨ (ls ≠ [] ∧ ∃ ms : List Int, ms.Perm (ls.getD (laL ls key) [] ++ [key]) ∧ ms.Pairwise (· ≤ ·) ∧
  ls' = if 8 < ms.length then (ls.set (laL ls key) (ms.take 4)).take (laL ls key + 1) ++ [ms.drop 4] ++ (ls.set (laL ls key) (ms.take 4)).drop (laL ls key + 1) else ls.set (laL ls key) ms)
/-- two neighbours become one, where they are small -/
def jnL (ls : List (List Int)) (k : Int) : List (List Int) := if 0 ≤ k ∧ k + 1 < ls.length ∧ (ls.getD k.toNat [] ++ ls.getD (k.toNat + 1) []).length < 5 then (ls.set k.toNat (ls.getD k.toNat [] ++ ls.getD (k.toNat + 1) [])).eraseIdx (k.toNat + 1) else ls
theorem jnL_nat (ls : List (List Int)) (k : Nat) : jnL ls (k : Int) = jnL' ls k := by
  unfold jnL jnL'
  rw [Int.toNat_natCast]
  by_cases c : k + 1 < ls.length ∧ (ls.getD k [] ++ ls.getD (k + 1) []).length < 5
  · rw [if_pos c, if_pos ⟨by omega, by omega, c.2⟩]
  · rw [if_neg c, if_neg fun h => c ⟨by omega, h.2.2⟩]
theorem jnL_neg (ls : List (List Int)) {k : Int} (h : k < 0) : jnL ls k = ls := by
  unfold jnL
  rw [if_neg fun c => by omega]
theorem jn_l8 {ls : List (List Int)} {k : Int} (h : ∀ l ∈ ls, l.length ≤ 8) : ∀ l ∈ jnL ls k, l.length ≤ 8 := by
  unfold jnL
  split
  · rename_i c
    intro l hl
    have hl := List.mem_of_mem_eraseIdx hl
    rcases List.mem_or_eq_of_mem_set hl with hl | rfl
    · exact h l hl
    · omega
  · exact h
theorem jn_ne {ls : List (List Int)} {k : Int} (h : ∀ l ∈ ls, l ≠ []) : ∀ l ∈ jnL ls k, l ≠ [] := by
  unfold jnL
  split
  · rename_i c
    intro l hl
    have hl := List.mem_of_mem_eraseIdx hl
    rcases List.mem_or_eq_of_mem_set hl with hl | rfl
    · exact h l hl
    · have := h _ (getD_mem (ls := ls) (i := k.toNat) (by omega))
      intro e
      exact this (List.append_eq_nil_iff.mp e).1
  · exact h
theorem jn_fl {ls : List (List Int)} {k : Int} : (jnL ls k).flatten = ls.flatten := by
  by_cases c : k < 0
  · rw [jnL_neg ls c]
  · obtain ⟨j, rfl⟩ : ∃ j : Nat, k = j := ⟨k.toNat, by omega⟩
    rw [jnL_nat]
    exact fl_jn
/-- what is left of the leaves without a key -/
def dsL (ls : List (List Int)) (key : Int) : List (List Int) :=
  if (ls.getD (laL ls key) []).filter (fun n => !decide (n = key)) = [] then ls.eraseIdx (laL ls key)
  else jnL (jnL (ls.set (laL ls key) ((ls.getD (laL ls key) []).filter (fun n => !decide (n = key)))) (laL ls key)) ((laL ls key : Int) - 1)
theorem nb_del {lf : List Int} (h1 : lf.length ≤ 1) {suf : List (List Int)} : ∀ pre : List (List Int), nbL (pre ++ lf :: suf) → nbL (pre ++ suf)
  | [], h => nbL_tail h
  | [y], h => by
    cases suf with
    | nil => exact True.intro
    | cons b r => exact ⟨by have := h.1; have := h.2.1; omega, h.2.2⟩
  | x :: y :: pre, h => ⟨h.1, nb_del h1 (y :: pre) h.2⟩
theorem nb_dis {lf lg : List Int} {pre suf : List (List Int)} (h : nbL (pre ++ lf :: suf)) : nbL (jnL (jnL (pre ++ lg :: suf) pre.length) ((pre.length : Int) - 1)) := by
  have hs : nbL suf := nbL_tail ((nbL_app pre).mp h).2
  obtain ⟨m, r', e, hm⟩ : ∃ m r', jnL (pre ++ lg :: suf) pre.length = pre ++ m :: r' ∧ nbL (m :: r') := by
    rw [jnL_nat]
    cases suf with
    | nil => exact ⟨lg, [], jn_last, True.intro⟩
    | cons b r =>
      rw [jn_two]
      by_cases c : (lg ++ b).length < 5
      · rw [if_pos c]
        exact ⟨_, _, rfl, nbL_beg (by simp) hs⟩
      · rw [if_neg c]
        rw [List.length_append] at c
        exact ⟨_, _, rfl, by omega, hs⟩
  rw [e]
  rcases List.eq_nil_or_concat pre with rfl | ⟨pre0, p, rfl⟩
  · rw [jnL_neg _ (by simp)]
    exact hm
  · rw [List.concat_eq_append, List.length_append, List.length_singleton, show (((pre0.length + 1 : Nat) : Int) - 1) = (pre0.length : Int) by omega, jnL_nat, List.append_assoc]
    rw [List.concat_eq_append, List.append_assoc] at h
    exact nb_join ((nbL_app pre0).mp h).1 hm
theorem pre_lt {ls : List (List Int)} (h : LInv ls) {key x : Int} (hx : x ∈ (ls.take (laL ls key)).flatten) : x < key := by
  obtain ⟨l, hl, hx⟩ := List.mem_flatten.mp hx
  obtain ⟨j, hj, rfl⟩ := List.getElem_of_mem hl
  rw [List.length_take] at hj
  rw [List.getElem_take] at hx
  exact la_ahead h (show j < laL ls key by omega) (by rw [getD_get (by omega)]; exact hx)
theorem suf_gt {ls : List (List Int)} (h : LInv ls) {key x : Int} (hx : x ∈ (ls.drop (laL ls key + 1)).flatten) : key < x := by
  obtain ⟨l, hl, hx⟩ := List.mem_flatten.mp hx
  obtain ⟨j, hj, rfl⟩ := List.getElem_of_mem hl
  rw [List.length_drop] at hj
  rw [List.getElem_drop] at hx
  exact la_behind h (show laL ls key < laL ls key + 1 + j by omega) (by omega) (by rw [getD_get (by omega)]; exact hx)
theorem filter_id {xs : List Int} {key : Int} (h : ∀ x ∈ xs, x ≠ key) : xs.filter (fun n => !decide (n = key)) = xs :=
  List.filter_eq_self.mpr fun x hx => by simp [h x hx]
theorem dis_law {ls : List (List Int)} {key : Int} (h : LInv ls) (hk : key ∈ ls.flatten) : LInv (dsL ls key) ∧ (dsL ls key).flatten = ls.flatten.filter (fun n => !decide (n = key)) := by
  obtain ⟨hn, hm⟩ := (la_mem h key).mpr hk
  have hl := laL_lt (key := key) hn
  have p1 : ∀ x ∈ (ls.take (laL ls key)).flatten, x ≠ key := fun x hx => by have := pre_lt h hx; omega
  have p2 : ∀ x ∈ (ls.drop (laL ls key + 1)).flatten, x ≠ key := fun x hx => by have := suf_gt h hx; omega
  have e := split3 ls (laL ls key) hl
  have e3 : ls.set (laL ls key) ((ls.getD (laL ls key) []).filter (fun n => !decide (n = key))) = ls.take (laL ls key) ++ (ls.getD (laL ls key) []).filter (fun n => !decide (n = key)) :: ls.drop (laL ls key + 1) := set3 _ _ _ hl
  have e4 := erase3 ls (laL ls key)
  have e5 := getD_get hl
  have ek : (ls.take (laL ls key)).length = laL ls key := by rw [List.length_take]; omega
  have ef : ls.flatten.filter (fun n => !decide (n = key)) = (ls.take (laL ls key)).flatten ++ (ls.getD (laL ls key) []).filter (fun n => !decide (n = key)) ++ (ls.drop (laL ls key + 1)).flatten := by
    conv => lhs; rw [e]
    rw [List.flatten_append, List.flatten_cons, List.filter_append, List.filter_append, filter_id p1, filter_id p2, ← e5, List.append_assoc]
  have fl : (dsL ls key).flatten = ls.flatten.filter (fun n => !decide (n = key)) := by
    rw [ef]
    unfold dsL
    split
    · rename_i c
      rw [c, e4, List.flatten_append, List.append_nil]
    · rw [jn_fl, jn_fl, e3, List.flatten_append, List.flatten_cons, List.append_assoc]
  refine ⟨LInv.of ?_ ?_ (by rw [fl]; exact h.srt.filter _) ?_, fl⟩
  · unfold dsL
    split
    · exact fun l hl => h.ne l (List.mem_of_mem_eraseIdx hl)
    · rename_i c
      refine jn_ne (jn_ne fun l hl => ?_)
      rcases List.mem_or_eq_of_mem_set hl with hl | rfl
      · exact h.ne l hl
      · exact c
  · unfold dsL
    split
    · exact fun l hl => h.l8 l (List.mem_of_mem_eraseIdx hl)
    · refine jn_l8 (jn_l8 fun l hl => ?_)
      rcases List.mem_or_eq_of_mem_set hl with hl | rfl
      · exact h.l8 l hl
      · exact Nat.le_trans (List.length_filter_le _ _) (h.l8 _ (getD_mem (by assumption)))
  · have nb := h.nb
    rw [e] at nb
    unfold dsL
    split
    · rename_i c
      rw [e4]
      refine nb_del ?_ _ nb
      rw [← e5]
      have hp := h.up _ (getD_mem hl)
      have hall : ∀ x ∈ ls.getD (laL ls key) [], x = key := fun x hx => by
        have := List.filter_eq_nil_iff.mp c x hx
        simpa using this
      generalize ls.getD (laL ls key) [] = lf at hp hall
      match lf, hp, hall with
      | [], _, _ => simp
      | [_], _, _ => simp
      | x :: y :: r, hp, hall =>
        have h1 := hall x (by simp)
        have h2 := hall y (by simp)
        have h3 := (List.pairwise_cons.mp hp).1 y (by simp)
        omega
    · have := nb_dis (lg := (ls.getD (laL ls key) []).filter (fun n => !decide (n = key))) nb
      rw [ek] at this
      rw [e3]
      exact this
theorem nb_ge4 {lf t : List Int} (ht : 4 ≤ t.length) : ∀ pre : List (List Int), (∀ l ∈ pre, l ≠ []) → nbL (pre ++ [lf]) → nbL (pre ++ [t])
  | [], _, _ => True.intro
  | [x], hn, _ => ⟨by have := List.length_pos_iff.mpr (hn x (by simp)); omega, True.intro⟩
  | x :: y :: pre, hn, h => ⟨h.1, nb_ge4 ht (y :: pre) (fun l hl => hn l (List.mem_cons_of_mem _ hl)) h.2⟩
theorem strict {ms : List Int} (h1 : ms.Pairwise (· ≤ ·)) (h2 : ms.Nodup) : ms.Pairwise (· < ·) :=
  (h1.and h2).imp fun {a b} h => by have := h.1; have := h.2; omega
theorem ins_two {α : Type} (pre suf : List α) (a b : α) {k : Nat} (hk : pre.length = k) : (pre ++ a :: suf).take (k + 1) ++ [b] ++ (pre ++ a :: suf).drop (k + 1) = pre ++ a :: b :: suf := by
  subst hk
  have e : pre ++ a :: suf = (pre ++ [a]) ++ suf := by simp
  have hl : (pre ++ [a]).length = pre.length + 1 := by simp
  rw [e, ← hl, List.take_left, List.drop_left]
  simp
theorem add_law {ls ls' : List (List Int)} {key : Int} (h : LInv ls) (hk : key ∉ ls.flatten) (a : AddR ls key ls') : LInv ls' ∧ ls'.flatten.Perm (key :: ls.flatten) := by
  rcases a with ⟨rfl, rfl⟩ | ⟨hn, ms, pm, so, e'⟩
  · exact ⟨⟨by simp, by simp, by simp, by simp, True.intro⟩, by simp⟩
  have hl := laL_lt (key := key) hn
  have hm : key ∉ ls.getD (laL ls key) [] := fun hm => hk ((la_mem h key).mp ⟨hn, hm⟩)
  have p1 : ∀ x ∈ (ls.take (laL ls key)).flatten, x < key := fun x hx => pre_lt h hx
  have p2 : ∀ x ∈ (ls.drop (laL ls key + 1)).flatten, key < x := fun x hx => suf_gt h hx
  have e := split3 ls (laL ls key) hl
  have e5 := getD_get hl
  rw [← e5] at e
  have ek : (ls.take (laL ls key)).length = laL ls key := by rw [List.length_take]; omega
  have hup := h.up _ (getD_mem hl)
  have h8 := h.l8 _ (getD_mem hl)
  have hne : ∀ l ∈ ls.take (laL ls key), l ≠ [] := fun l hl => h.ne l (List.mem_of_mem_take hl)
  have hne2 : ∀ l ∈ ls.drop (laL ls key + 1), l ≠ [] := fun l hl => h.ne l (List.mem_of_mem_drop hl)
  have h82 : ∀ l ∈ ls.take (laL ls key), l.length ≤ 8 := fun l hl => h.l8 l (List.mem_of_mem_take hl)
  have h83 : ∀ l ∈ ls.drop (laL ls key + 1), l.length ≤ 8 := fun l hl => h.l8 l (List.mem_of_mem_drop hl)
  rw [set3 _ _ _ hl, set3 _ _ _ hl] at e'
  have nb := h.nb
  have srt := h.srt
  have ef : ls.flatten = (ls.take (laL ls key)).flatten ++ (ls.getD (laL ls key) [] ++ (ls.drop (laL ls key + 1)).flatten) := by
    conv => lhs; rw [e]
    rw [List.flatten_append, List.flatten_cons]
  rw [ef] at srt ⊢
  rw [e] at nb
  generalize ls.take (laL ls key) = pre at *
  generalize ls.drop (laL ls key + 1) = suf at *
  generalize ls.getD (laL ls key) [] = lf at *
  generalize laL ls key = k at *
  have hml : ms.length = lf.length + 1 := by rw [pm.length_eq]; simp
  have hnd : ms.Nodup := by
    refine pm.nodup_iff.mpr ?_
    rw [List.nodup_append]
    refine ⟨hup.imp fun {a b} h => by omega, by simp, fun x hx y hy e => ?_⟩
    rw [List.mem_singleton.mp hy] at e
    subst e
    exact hm hx
  have hst := strict so hnd
  have fl : ls'.flatten = pre.flatten ++ (ms ++ suf.flatten) := by
    rw [e']
    split
    · rw [ins_two _ _ _ _ ek, List.flatten_append, List.flatten_cons, List.flatten_cons, ← List.append_assoc (ms.take 4), List.take_append_drop]
    · rw [List.flatten_append, List.flatten_cons]
  have hmem : ∀ x ∈ ms, x ∈ lf ∨ x = key := fun x hx => by
    have := pm.mem_iff.mp hx
    simpa using this
  obtain ⟨s1, s2, s3⟩ := List.pairwise_append.mp srt
  obtain ⟨s4, s5, s6⟩ := List.pairwise_append.mp s2
  have srt' : ls'.flatten.Pairwise (· < ·) := by
    rw [fl]
    refine List.pairwise_append.mpr ⟨s1, List.pairwise_append.mpr ⟨hst, s5, fun x hx y hy => ?_⟩, fun x hx y hy => ?_⟩
    · rcases hmem x hx with hx | rfl
      · exact s6 x hx y hy
      · exact p2 y hy
    · rcases List.mem_append.mp hy with hy | hy
      · rcases hmem y hy with hy | rfl
        · exact s3 x hx y (List.mem_append_left _ hy)
        · exact p1 x hx
      · exact s3 x hx y (List.mem_append_right _ hy)
  refine ⟨LInv.of ?_ ?_ srt' ?_, ?_⟩
  · rw [e']
    split
    · rw [ins_two _ _ _ _ ek]
      intro l hl
      rcases List.mem_append.mp hl with hl | hl
      · exact hne l hl
      · rcases List.mem_cons.mp hl with rfl | hl
        · intro z; have z2 := congrArg List.length z; rw [List.length_take, List.length_nil] at z2; omega
        · rcases List.mem_cons.mp hl with rfl | hl
          · intro z; have z2 := congrArg List.length z; rw [List.length_drop, List.length_nil] at z2; omega
          · exact hne2 l hl
    · intro l hl
      rcases List.mem_append.mp hl with hl | hl
      · exact hne l hl
      · rcases List.mem_cons.mp hl with rfl | hl
        · intro z; rw [z] at hml; simp at hml
        · exact hne2 l hl
  · rw [e']
    split
    · rw [ins_two _ _ _ _ ek]
      intro l hl
      rcases List.mem_append.mp hl with hl | hl
      · exact h82 l hl
      · rcases List.mem_cons.mp hl with rfl | hl
        · simp; omega
        · rcases List.mem_cons.mp hl with rfl | hl
          · simp; omega
          · exact h83 l hl
    · intro l hl
      rcases List.mem_append.mp hl with hl | hl
      · exact h82 l hl
      · rcases List.mem_cons.mp hl with rfl | hl
        · omega
        · exact h83 l hl
  · have n1 := (nbL_app pre).mp nb
    rw [e']
    split
    · rw [ins_two _ _ _ _ ek]
      refine (nbL_app pre).mpr ⟨nb_ge4 (by simp; omega) pre hne n1.1, by simp; omega, ?_⟩
      have hs := nbL_tail n1.2
      cases suf with
      | nil => exact True.intro
      | cons b r => exact ⟨by simp; omega, hs⟩
    · exact (nbL_app pre).mpr ⟨nbL_end (by omega) pre n1.1, nbL_beg (by omega) n1.2⟩
  · rw [fl]
    refine ((pm.append_right _).append_left _).trans ?_
    rw [List.append_assoc lf]
    show (pre.flatten ++ (lf ++ (key :: suf.flatten))).Perm _
    rw [← List.append_assoc, ← List.append_assoc pre.flatten lf]
    exact List.perm_middle
end Z

/-! Msl: dicts of whole numbers as lists of pairs; rows of slots, in plain Lean. -/
namespace Z
open PySem PySem.Spec PyProof.Rows L2
abbrev Kv := List (Int × Int)
def ksP (kv : Kv) : List Int := kv.map (·.1)
def getP (kv : Kv) (k : Int) : Option Int := (kv.find? fun p => decide (p.1 = k)).map (·.2)
def putP (kv : Kv) (k v : Int) : Kv := if (kv.any fun p => decide (p.1 = k)) = true then kv.map (fun p => if p.1 = k then (p.1, v) else p) else kv ++ [(k, v)]
def delP (kv : Kv) (k : Int) : Kv := kv.filter fun p => decide (p.1 ≠ k)
def dkP (kv : Kv) : List (Key × V) := kv.map fun p => (Sum.inl p.1, V.int p.2)
section
variable {kv l r : Kv} {k v n : Int}
theorem dkP_ks (kv : Kv) : Ks (dkP kv) (ksP kv) := by unfold Ks dkP ksP; rw [List.map_map, List.map_map]; rfl
theorem dkP_len (kv : Kv) : (dkP kv).length = kv.length := List.length_map _
theorem ksP_len (kv : Kv) : (ksP kv).length = kv.length := List.length_map _
theorem inl_eq {a b : Int} : ((Sum.inl a : Key) = Sum.inl b) ↔ a = b := ⟨fun h => by cases h; rfl, fun h => by rw [h]⟩
theorem any_iff (kv : Kv) (k : Int) : (kv.any fun p => decide (p.1 = k)) = decide (k ∈ ksP kv) := by
  rw [Bool.eq_iff_iff, List.any_eq_true, decide_eq_true_iff]
  unfold ksP
  rw [List.mem_map]
  constructor
  · rintro ⟨p, hp, e⟩; exact ⟨p, hp, of_decide_eq_true e⟩
  · rintro ⟨p, hp, e⟩; exact ⟨p, hp, decide_eq_true e⟩
theorem dkP_get : ∀ (kv : Kv) (k : Int), valV (dkP kv) (Sum.inl k) = (getP kv k).map V.int
  | [], _ => rfl
  | p :: r, k => by
    by_cases e : p.1 = k
    · rw [show dkP (p :: r) = (Sum.inl p.1, V.int p.2) :: dkP r from rfl, valV_pos (by rw [e])]
      unfold getP
      rw [List.find?_cons, decide_eq_true e]
      rfl
    · rw [show dkP (p :: r) = (Sum.inl p.1, V.int p.2) :: dkP r from rfl, valV_neg (fun h => e (inl_eq.mp h)), dkP_get r k]
      unfold getP
      rw [List.find?_cons, decide_eq_false e]
theorem dkP_put (kv : Kv) (k v : Int) : putK (dkP kv) (Sum.inl k) (V.int v) = dkP (putP kv k v) := by
  unfold putK putP
  have e : ((dkP kv).any fun p => decide (p.1 = Sum.inl k)) = (kv.any fun p => decide (p.1 = k)) := by
    unfold dkP
    rw [List.any_map]
    congr 1
    funext p
    show decide ((Sum.inl p.1 : Key) = Sum.inl k) = _
    rw [decide_eq_decide]
    exact inl_eq
  rw [e]
  by_cases c : (kv.any fun p => decide (p.1 = k)) = true
  · rw [if_pos c, if_pos c]
    unfold dkP
    rw [List.map_map, List.map_map]
    refine List.map_congr_left fun p _ => ?_
    by_cases e2 : p.1 = k
    · simp [e2]
    · have : ¬ ((Sum.inl p.1 : Key) = Sum.inl k) := fun h => e2 (inl_eq.mp h)
      simp [e2]
  · rw [if_neg c, if_neg c]
    unfold dkP
    rw [List.map_append]
    rfl
theorem dkP_del (kv : Kv) (k : Int) : dropK (dkP kv) (Sum.inl k) = dkP (delP kv k) := by
  unfold dropK delP dkP
  rw [List.filter_map]
  congr 1
  refine List.filter_congr fun p _ => ?_
  show decide ((Sum.inl p.1 : Key) ≠ Sum.inl k) = _
  rw [decide_eq_decide]
  exact not_congr inl_eq
theorem dkP_one (kv : Kv) (k v : Int) : mergeK (dkP kv) [(Sum.inl k, V.int v)] = dkP (putP kv k v) := dkP_put kv k v
theorem getP_none (h : k ∉ ksP kv) : getP kv k = none := by
  unfold getP
  rw [List.find?_eq_none.mpr ?_]
  · rfl
  · intro p hp
    have : ¬ p.1 = k := fun e => h (e ▸ List.mem_map.mpr ⟨p, hp, rfl⟩)
    simpa using this
theorem getP_mem (h : getP kv k = some v) : (k, v) ∈ kv := by
  unfold getP at h
  cases e : kv.find? fun p => decide (p.1 = k) with
  | none => rw [e] at h; cases h
  | some p =>
    rw [e] at h
    have h1 := List.find?_some e
    have h2 := List.mem_of_find?_eq_some e
    have e1 : p.1 = k := of_decide_eq_true h1
    cases h
    rw [← e1]
    exact h2
theorem nd_uniq (nd : (ksP kv).Nodup) : ∀ {a b : Int × Int}, a ∈ kv → b ∈ kv → a.1 = b.1 → a = b := by
  induction kv with
  | nil => intro a b h; cases h
  | cons p r ih =>
    intro a b ha hb e
    have n := List.nodup_cons.mp nd
    rcases List.mem_cons.mp ha with rfl | ha2
    · rcases List.mem_cons.mp hb with rfl | hb
      · rfl
      · exact absurd (show a.1 ∈ r.map (·.1) from by rw [e]; exact List.mem_map.mpr ⟨b, hb, rfl⟩) n.1
    · rcases List.mem_cons.mp hb with rfl | hb
      · exact absurd (show b.1 ∈ r.map (·.1) from by rw [← e]; exact List.mem_map.mpr ⟨a, ha2, rfl⟩) n.1
      · exact ih n.2 ha2 hb e
theorem getP_some (nd : (ksP kv).Nodup) (h : (k, v) ∈ kv) : getP kv k = some v := by
  cases e : getP kv k with
  | none =>
    unfold getP at e
    cases e2 : kv.find? fun p => decide (p.1 = k) with
    | none =>
      have := List.find?_eq_none.mp e2 _ h
      simp at this
    | some p => rw [e2] at e; cases e
  | some u =>
    have h2 := getP_mem e
    have := nd_uniq nd h2 h rfl
    cases this
    rfl
theorem getP_isSome (kv : Kv) (k : Int) : (getP kv k).isSome = decide (k ∈ ksP kv) := by
  have h := (dkP_ks kv).isSome (n := k)
  rw [dkP_get] at h
  rw [← h]
  cases getP kv k <;> rfl
theorem getP_ex (h : k ∈ ksP kv) : ∃ v, getP kv k = some v := by
  have e := getP_isSome kv k
  rw [decide_eq_true h] at e
  exact Option.isSome_iff_exists.mp e
theorem putP_new (h : k ∉ ksP kv) : putP kv k v = kv ++ [(k, v)] := by
  unfold putP
  rw [any_iff, decide_eq_false h]
  rfl
theorem putP_old (h : k ∈ ksP kv) : putP kv k v = kv.map fun p => if p.1 = k then (p.1, v) else p := by
  unfold putP
  rw [any_iff, decide_eq_true h]
  rfl
theorem delP_app : delP (l ++ r) k = delP l k ++ delP r k := List.filter_append ..
theorem delP_not (h : k ∉ ksP kv) : delP kv k = kv := by
  unfold delP
  refine List.filter_eq_self.mpr fun p hp => decide_eq_true (by intro e; apply h; rw [← e]; exact List.mem_map.mpr ⟨p, hp, rfl⟩)
theorem ksP_put_old (h : k ∈ ksP kv) : ksP (putP kv k v) = ksP kv := by
  rw [putP_old h]
  unfold ksP
  rw [List.map_map]
  refine List.map_congr_left fun p _ => ?_
  show (if p.1 = k then (p.1, v) else p).1 = p.1
  split <;> rfl
theorem ksP_put_new (h : k ∉ ksP kv) : ksP (putP kv k v) = ksP kv ++ [k] := by
  rw [putP_new h]
  unfold ksP
  rw [List.map_append]
  rfl
theorem ksP_del (kv : Kv) (k : Int) : ksP (delP kv k) = (ksP kv).filter fun m => decide (m ≠ k) := by
  unfold ksP delP
  rw [List.filter_map]
  rfl
theorem map_not (h : k ∉ ksP kv) : (kv.map fun p => if p.1 = k then (p.1, v) else p) = kv := by
  conv => rhs; rw [← List.map_id kv]
  refine List.map_congr_left fun p hp => if_neg (by intro e; apply h; rw [← e]; exact List.mem_map.mpr ⟨p, hp, rfl⟩)
theorem putP_perm {kv kv' : Kv} (h : kv.Perm kv') (k v : Int) : (putP kv k v).Perm (putP kv' k v) := by
  have hm : k ∈ ksP kv ↔ k ∈ ksP kv' := (h.map (·.1)).mem_iff
  by_cases c : k ∈ ksP kv
  · rw [putP_old c, putP_old (hm.mp c)]
    exact h.map _
  · rw [putP_new c, putP_new (fun z => c (hm.mpr z))]
    exact h.append_right _
theorem delP_perm {kv kv' : Kv} (h : kv.Perm kv') (k : Int) : (delP kv k).Perm (delP kv' k) := h.filter _
theorem ksP_perm {kv kv' : Kv} (h : kv.Perm kv') : (ksP kv).Perm (ksP kv') := h.map _
theorem getP_perm {kv kv' : Kv} (h : kv.Perm kv') (nd : (ksP kv).Nodup) (k : Int) : getP kv k = getP kv' k := by
  have nd' : (ksP kv').Nodup := (ksP_perm h).nodup_iff.mp nd
  cases e : getP kv k with
  | some v => exact (getP_some nd' (h.mem_iff.mp (getP_mem e))).symm
  | none =>
    cases e2 : getP kv' k with
    | none => rfl
    | some v =>
      rw [getP_some nd (h.mem_iff.mpr (getP_mem e2))] at e
      cases e
theorem nd_put (nd : (ksP kv).Nodup) : (ksP (putP kv k v)).Nodup := by
  by_cases c : k ∈ ksP kv
  · rw [ksP_put_old c]; exact nd
  · rw [ksP_put_new c]
    refine List.nodup_append.mpr ⟨nd, by simp, fun a ha b hb e => ?_⟩
    have : b = k := by simpa using hb
    exact c (this ▸ e ▸ ha)
theorem nd_del (nd : (ksP kv).Nodup) : (ksP (delP kv k)).Nodup := by
  rw [ksP_del]
  exact nd.sublist List.filter_sublist
theorem del_len (nd : (ksP kv).Nodup) (h : k ∈ ksP kv) : (delP kv k).length + 1 = kv.length := by
  rw [← ksP_len, ← ksP_len kv, ksP_del]
  have : (ksP kv).filter (fun m => decide (m ≠ k)) = (ksP kv).erase k := by
    rw [nd.erase_eq_filter]
    refine List.filter_congr fun m _ => ?_
    by_cases e : m = k <;> simp [e]
  rw [this, List.length_erase_of_mem h]
  have := List.length_pos_of_mem h
  omega
end
/-! lots -/
abbrev Lots := List (Addr × Kv)
def kvL (ds : Lots) : Kv := (ds.map (·.2)).flatten
section
variable {ds : Lots} {i : Nat} {d : Addr} {l x : Kv}
theorem kvL_app (a b : Lots) : kvL (a ++ b) = kvL a ++ kvL b := by unfold kvL; rw [List.map_append, List.flatten_append]
theorem kvL_cons (z : Addr × Kv) (r : Lots) : kvL (z :: r) = z.2 ++ kvL r := rfl
theorem at_split (h : ds[i]? = some (d, l)) : ds = ds.take i ++ (d, l) :: ds.drop (i + 1) := by
  obtain ⟨hi, e⟩ := List.getElem?_eq_some_iff.mp h
  rw [← e, List.getElem_cons_drop, List.take_append_drop]
theorem set_split (h : ds[i]? = some (d, l)) (z : Addr × Kv) : ds.set i z = ds.take i ++ z :: ds.drop (i + 1) := by
  obtain ⟨hi, e⟩ := List.getElem?_eq_some_iff.mp h
  rw [List.set_eq_take_append_cons_drop, if_pos hi]
/-- one lot apart, and all the others -/
theorem kvL_at (h : ds[i]? = some (d, l)) : (kvL ds).Perm (l ++ kvL (ds.eraseIdx i)) := by
  conv => lhs; rw [at_split h]
  rw [List.eraseIdx_eq_take_drop_succ, kvL_app, kvL_app, kvL_cons]
  rw [← List.append_assoc, ← List.append_assoc]
  exact List.perm_append_comm.append_right _
theorem kvL_set {d' : Addr} (h : ds[i]? = some (d, l)) : (kvL (ds.set i (d', x))).Perm (x ++ kvL (ds.eraseIdx i)) := by
  have hi := (List.getElem?_eq_some_iff.mp h).1
  have h2 : (ds.set i (d', x))[i]? = some (d', x) := by rw [List.getElem?_set_self hi]
  have := kvL_at h2
  rwa [List.eraseIdx_set_eq] at this
theorem kvL_mem {p : Int × Int} : p ∈ kvL ds ↔ ∃ (i : Nat) (z : Addr × Kv), ds[i]? = some z ∧ p ∈ z.2 := by
  unfold kvL
  rw [List.mem_flatten]
  constructor
  · rintro ⟨l, hl, hp⟩
    obtain ⟨z, hz, rfl⟩ := List.mem_map.mp hl
    obtain ⟨i, hi⟩ := List.mem_iff_getElem?.mp hz
    exact ⟨i, z, hi, hp⟩
  · rintro ⟨i, z, hi, hp⟩
    exact ⟨_, List.mem_map.mpr ⟨z, List.mem_iff_getElem?.mpr ⟨i, hi⟩, rfl⟩, hp⟩
end
end Z

/-! Msl2: two rows of slots side by side, in plain Lean. -/
namespace Z
open PySem PySem.Spec PyProof.Rows L2
structure Bk where
  bo : Addr
  la : Addr
  ds : Lots
structure Sl where
  o : Bk
  y : Option Bk
  s : Nat
def Bk.set (b : Bk) (i : Nat) (w : Addr × Kv) : Bk := { b with ds := b.ds.set i w }
namespace Sl
def yd (x : Sl) : Lots := match x.y with | none => [] | some b => b.ds
def all (x : Sl) : Lots := x.o.ds ++ x.yd
/-- where a key lies, or would -/
def hi (x : Sl) (k : Int) : Nat := match x.y with
  | none => k.toNat % x.o.ds.length
  | some b => if k.toNat % x.o.ds.length < x.s then x.o.ds.length + k.toNat % b.ds.length else k.toNat % x.o.ds.length
def set (x : Sl) (i : Nat) (w : Addr × Kv) : Sl := if i < x.o.ds.length then { x with o := x.o.set i w } else { x with y := x.y.map fun b => b.set (i - x.o.ds.length) w }
end Sl
structure SlI (x : Sl) (kv : Kv) : Prop where
  ze : ∃ e, 2 ≤ e ∧ e ≤ 8 ∧ x.o.ds.length = 2 ^ e
  y0 : x.y = none → x.s = 0
  ye : ∀ b, x.y = some b → x.s < x.o.ds.length ∧ ∃ e, 2 ≤ e ∧ e ≤ 8 ∧ b.ds.length = 2 ^ e
  hm : ∀ (i : Nat) (z : Addr × Kv), x.all[i]? = some z → ∀ p ∈ z.2, x.hi p.1 = i
  pm : (kvL x.all).Perm kv
  nd : (ksP kv).Nodup
  nn : ∀ k ∈ ksP kv, 0 ≤ k
section
variable {x : Sl} {kv l ps : Kv} {k v : Int} {i : Nat} {d : Addr} {w : Addr × Kv} {b : Bk} {ds : Lots}
theorem pow_sz {n : Nat} (h : ∃ e, 2 ≤ e ∧ e ≤ 8 ∧ n = 2 ^ e) : 4 ≤ n ∧ n ≤ 256 := by
  obtain ⟨e, h1, h2, rfl⟩ := h
  have a := Nat.pow_le_pow_right (n := 2) (by decide) h1
  have c := Nat.pow_le_pow_right (n := 2) (by decide) h2
  exact ⟨a, c⟩
theorem Sl.set_all (x : Sl) (i : Nat) (w : Addr × Kv) : (x.set i w).all = x.all.set i w := by
  unfold Sl.set Sl.all
  by_cases h : i < x.o.ds.length
  · rw [if_pos h, List.set_append_left _ _ h]
    rfl
  · rw [if_neg h, List.set_append_right _ _ (by omega)]
    unfold Sl.yd
    cases e : x.y with
    | none => simp
    | some b => rfl
theorem Sl.set_len (x : Sl) (i : Nat) (w : Addr × Kv) : (x.set i w).o.ds.length = x.o.ds.length := by
  unfold Sl.set
  split
  · exact List.length_set
  · rfl
theorem Sl.set_s (x : Sl) (i : Nat) (w : Addr × Kv) : (x.set i w).s = x.s := by unfold Sl.set; split <;> rfl
theorem Sl.set_y (x : Sl) (i : Nat) (w : Addr × Kv) : (x.set i w).y.map (·.ds.length) = x.y.map (·.ds.length) := by
  unfold Sl.set
  split
  · rfl
  · cases x.y with
    | none => rfl
    | some b => show some _ = some _; congr 1; exact List.length_set
theorem Sl.hi_of {x y : Sl} (h1 : y.o.ds.length = x.o.ds.length) (h2 : y.s = x.s) (h3 : y.y.map (·.ds.length) = x.y.map (·.ds.length)) (k : Int) : y.hi k = x.hi k := by
  unfold Sl.hi
  rw [h1, h2]
  cases e : y.y with
  | none =>
    rw [e] at h3
    cases e2 : x.y with
    | none => rfl
    | some b => rw [e2] at h3; cases h3
  | some b =>
    rw [e] at h3
    cases e2 : x.y with
    | none => rw [e2] at h3; cases h3
    | some c =>
      rw [e2] at h3
      have : b.ds.length = c.ds.length := by injection h3
      dsimp only
      rw [this]
theorem Sl.set_hi (x : Sl) (i : Nat) (w : Addr × Kv) (k : Int) : (x.set i w).hi k = x.hi k := Sl.hi_of (x.set_len i w) (x.set_s i w) (x.set_y i w) k
theorem SlI.lt (h : SlI x kv) (k : Int) : x.hi k < x.all.length := by
  have hz := (pow_sz h.ze).1
  have hk := Nat.mod_lt k.toNat (show 0 < x.o.ds.length by omega)
  unfold Sl.hi Sl.all Sl.yd
  cases e : x.y with
  | none => simp; omega
  | some b =>
    have hb := (pow_sz (h.ye b e).2).1
    have hk2 := Nat.mod_lt k.toNat (show 0 < b.ds.length by omega)
    dsimp only
    rw [List.length_append]
    split <;> omega
theorem SlI.at (h : SlI x kv) (k : Int) : ∃ d l, x.all[x.hi k]? = some (d, l) := ⟨x.all[x.hi k]'(h.lt k) |>.1, x.all[x.hi k]'(h.lt k) |>.2, List.getElem?_eq_getElem (h.lt k)⟩
theorem SlI.home (h : SlI x kv) (e : x.all[x.hi k]? = some (d, l)) : (ksP l).Nodup ∧ (k ∈ ksP l ↔ k ∈ ksP kv) ∧ getP l k = getP kv k ∧ k ∉ ksP (kvL (x.all.eraseIdx (x.hi k))) := by
  have p1 := (kvL_at e).symm.trans h.pm
  have hk : (ksP (l ++ kvL (x.all.eraseIdx (x.hi k)))).Nodup := (ksP_perm p1).nodup_iff.mpr h.nd
  have hk2 : (ksP l ++ ksP (kvL (x.all.eraseIdx (x.hi k)))).Nodup := by
    have e : ksP (l ++ kvL (x.all.eraseIdx (x.hi k))) = ksP l ++ ksP (kvL (x.all.eraseIdx (x.hi k))) := List.map_append
    rwa [e] at hk
  have n := List.nodup_append.mp hk2
  have hm : k ∈ ksP l ↔ k ∈ ksP kv := by
    constructor
    · intro hl
      obtain ⟨p, hp, rfl⟩ := List.mem_map.mp hl
      exact List.mem_map.mpr ⟨p, p1.mem_iff.mp (List.mem_append_left _ hp), rfl⟩
    · intro hl
      obtain ⟨p, hp, rfl⟩ := List.mem_map.mp hl
      obtain ⟨i, z, hi, hz⟩ := kvL_mem.mp (h.pm.mem_iff.mpr hp)
      have := h.hm i z hi p hz
      rw [this, hi] at e
      cases e
      exact List.mem_map.mpr ⟨p, hz, rfl⟩
  refine ⟨n.1, hm, ?_, ?_⟩
  · cases e2 : getP l k with
    | some v => exact (getP_some h.nd (p1.mem_iff.mp (List.mem_append_left _ (getP_mem e2)))).symm
    | none =>
      refine (getP_none fun hc => ?_).symm
      obtain ⟨v, e3⟩ := getP_ex (hm.mpr hc)
      rw [e3] at e2
      cases e2
  · intro hc
    obtain ⟨p, hp, e4⟩ := List.mem_map.mp hc
    have hkv : k ∈ ksP kv := e4 ▸ List.mem_map.mpr ⟨p, p1.mem_iff.mp (List.mem_append_right _ hp), rfl⟩
    exact n.2.2 k (hm.mpr hkv) k hc rfl
/-- one lot is written: what a key's new lot must be -/
theorem SlI.write (h : SlI x kv) {l' kv' : Kv} (e : x.all[x.hi k]? = some (d, l)) (h1 : ∀ p ∈ l', p.1 = k ∨ p ∈ l) (h2 : (l' ++ kvL (x.all.eraseIdx (x.hi k))).Perm kv') (nd : (ksP kv').Nodup) (nn : ∀ k ∈ ksP kv', 0 ≤ k) :
    SlI (x.set (x.hi k) (d, l')) kv' := by
  refine ⟨by rw [Sl.set_len]; exact h.ze, fun e2 => ?_, fun b e2 => ?_, fun i z hi p hp => ?_, ?_, nd, nn⟩
  · rw [Sl.set_s]
    have := x.set_y (x.hi k) (d, l')
    rw [e2] at this
    refine h.y0 ?_
    cases e3 : x.y with
    | none => rfl
    | some b => rw [e3] at this; cases this
  · have := x.set_y (x.hi k) (d, l')
    rw [e2] at this
    cases e3 : x.y with
    | none => rw [e3] at this; cases this
    | some c =>
      rw [e3] at this
      have e4 : b.ds.length = c.ds.length := by injection this
      rw [Sl.set_s, Sl.set_len, e4]
      exact h.ye c e3
  · rw [Sl.set_hi]
    rw [Sl.set_all] at hi
    by_cases c : i = x.hi k
    · subst c
      rw [List.getElem?_set_self (h.lt k)] at hi
      cases hi
      rcases h1 p hp with e5 | hp
      · rw [e5]
      · exact h.hm _ _ e p hp
    · rw [List.getElem?_set_ne (fun z => c z.symm)] at hi
      exact h.hm i z hi p hp
  · rw [Sl.set_all]
    exact (kvL_set e).trans h2
theorem SlI.put (h : SlI x kv) (h0 : 0 ≤ k) (e : x.all[x.hi k]? = some (d, l)) : SlI (x.set (x.hi k) (d, putP l k v)) (putP kv k v) := by
  obtain ⟨n1, m1, _, n2⟩ := h.home e
  have p1 := (kvL_at e).symm.trans h.pm
  refine h.write e (fun p hp => ?_) ?_ (nd_put h.nd) (fun m hm => ?_)
  · by_cases c : k ∈ ksP l
    · rw [putP_old c] at hp
      obtain ⟨q, hq, rfl⟩ := List.mem_map.mp hp
      by_cases c2 : q.1 = k
      · rw [if_pos c2]; exact .inl c2
      · rw [if_neg c2]; exact .inr hq
    · rw [putP_new c] at hp
      rcases List.mem_append.mp hp with hp | hp
      · exact .inr hp
      · have : p = (k, v) := by simpa using hp
        exact .inl (by rw [this])
  · refine List.Perm.trans ?_ (putP_perm p1 k v)
    by_cases c : k ∈ ksP l
    · have c2 : k ∈ ksP (l ++ kvL (x.all.eraseIdx (x.hi k))) := by unfold ksP; rw [List.map_append]; exact List.mem_append_left _ c
      rw [putP_old c, putP_old c2, List.map_append, map_not n2]
    · have c2 : k ∉ ksP (l ++ kvL (x.all.eraseIdx (x.hi k))) := by
        unfold ksP
        rw [List.map_append]
        intro hc
        rcases List.mem_append.mp hc with hc | hc
        · exact c hc
        · exact n2 hc
      rw [putP_new c, putP_new c2, List.append_assoc, List.append_assoc]
      exact List.perm_append_comm.append_left _
  · by_cases c : k ∈ ksP kv
    · rw [ksP_put_old c] at hm; exact h.nn m hm
    · rw [ksP_put_new c] at hm
      rcases List.mem_append.mp hm with hm | hm
      · exact h.nn m hm
      · have : m = k := by simpa using hm
        rw [this]; exact h0
theorem SlI.del (h : SlI x kv) (e : x.all[x.hi k]? = some (d, l)) : SlI (x.set (x.hi k) (d, delP l k)) (delP kv k) := by
  obtain ⟨n1, m1, _, n2⟩ := h.home e
  have p1 := (kvL_at e).symm.trans h.pm
  refine h.write e (fun p hp => .inr ((List.mem_filter.mp hp).1)) ?_ (nd_del h.nd) (fun m hm => ?_)
  · refine List.Perm.trans ?_ (delP_perm p1 k)
    rw [delP_app, delP_not n2]
  · rw [ksP_del] at hm
    exact h.nn m ((List.mem_filter.mp hm).1)
/-! moving -/
def mv1 (ds : Lots) (p : Int × Int) : Lots := match ds[p.1.toNat % ds.length]? with
  | some z => ds.set (p.1.toNat % ds.length) (z.1, putP z.2 p.1 p.2)
  | none => ds
def mvL (ds : Lots) (ps : Kv) : Lots := ps.foldl mv1 ds
theorem mv1_len (ds : Lots) (p : Int × Int) : (mv1 ds p).length = ds.length := by
  unfold mv1
  split
  · exact List.length_set
  · rfl
theorem mvL_len : ∀ (ps : Kv) (ds : Lots), (mvL ds ps).length = ds.length
  | [], _ => rfl
  | p :: r, ds => (mvL_len r (mv1 ds p)).trans (mv1_len ds p)
theorem mv1_at {p : Int × Int} (h : 0 < ds.length) (e : ds[p.1.toNat % ds.length]? = some (d, l)) : mv1 ds p = ds.set (p.1.toNat % ds.length) (d, putP l p.1 p.2) := by unfold mv1; rw [e]
theorem mv1_law {p : Int × Int} (hd : 0 < ds.length) (hn : p.1 ∉ ksP (kvL ds)) : (kvL (mv1 ds p)).Perm (kvL ds ++ [p]) ∧ ∀ (i : Nat) (z : Addr × Kv), (mv1 ds p)[i]? = some z → ∀ q ∈ z.2, (∃ z', ds[i]? = some z' ∧ q ∈ z'.2) ∨ (q = p ∧ p.1.toNat % ds.length = i) := by
  have hi := Nat.mod_lt p.1.toNat hd
  have e : ds[p.1.toNat % ds.length]? = some (ds[p.1.toNat % ds.length].1, ds[p.1.toNat % ds.length].2) := List.getElem?_eq_getElem hi
  generalize ds[p.1.toNat % ds.length].1 = d at e
  generalize ds[p.1.toNat % ds.length].2 = l at e
  have hl : p.1 ∉ ksP l := fun hc => by
    obtain ⟨q, hq, e2⟩ := List.mem_map.mp hc
    exact hn (e2 ▸ List.mem_map.mpr ⟨q, kvL_mem.mpr ⟨_, _, e, hq⟩, rfl⟩)
  rw [mv1_at hd e, putP_new hl]
  refine ⟨?_, fun i z hz q hq => ?_⟩
  · refine (kvL_set e).trans ?_
    refine List.Perm.trans ?_ ((kvL_at e).symm.append_right _)
    rw [List.append_assoc, List.append_assoc]
    exact List.perm_append_comm.append_left _
  · by_cases c : p.1.toNat % ds.length = i
    · subst c
      rw [List.getElem?_set_self hi] at hz
      cases hz
      rcases List.mem_append.mp hq with hq | hq
      · exact .inl ⟨_, e, hq⟩
      · exact .inr ⟨by simpa using hq, rfl⟩
    · rw [List.getElem?_set_ne c] at hz
      exact .inl ⟨z, hz, hq⟩
theorem mvL_law : ∀ (ps : Kv) (ds : Lots), 0 < ds.length → (ksP (kvL ds ++ ps)).Nodup → (kvL (mvL ds ps)).Perm (kvL ds ++ ps) ∧ ∀ (i : Nat) (z : Addr × Kv), (mvL ds ps)[i]? = some z → ∀ q ∈ z.2, (∃ z', ds[i]? = some z' ∧ q ∈ z'.2) ∨ (q ∈ ps ∧ q.1.toNat % ds.length = i)
  | [], ds, _, _ => ⟨by rw [List.append_nil]; exact .refl _, fun i z hz q hq => .inl ⟨z, hz, hq⟩⟩
  | p :: r, ds, hd, nd => by
    have ea : ksP (kvL ds ++ p :: r) = ksP (kvL ds) ++ p.1 :: ksP r := List.map_append
    have n := List.nodup_append.mp (ea ▸ nd)
    have hp : p.1 ∉ ksP (kvL ds) := fun hc => n.2.2 _ hc _ (List.mem_cons_self ..) rfl
    obtain ⟨a1, a2⟩ := mv1_law hd hp
    have nd2 : (ksP (kvL (mv1 ds p) ++ r)).Nodup := by
      refine (ksP_perm (a1.append_right r)).nodup_iff.mpr ?_
      rw [List.append_assoc]
      exact nd
    obtain ⟨b1, b2⟩ := mvL_law r (mv1 ds p) (by rw [mv1_len]; exact hd) nd2
    refine ⟨?_, fun i z hz q hq => ?_⟩
    · refine b1.trans ((a1.append_right r).trans ?_)
      rw [List.append_assoc]
      exact .refl _
    · rcases b2 i z hz q hq with ⟨z', e1, e2⟩ | ⟨e1, e2⟩
      · rcases a2 i z' e1 q e2 with h | ⟨rfl, h⟩
        · exact .inl h
        · exact .inr ⟨List.mem_cons_self .., h⟩
      · rw [mv1_len] at e2
        exact .inr ⟨List.mem_cons_of_mem _ e1, e2⟩
/-- the next slot is moved: the old row's lot at s is d2, empty -/
def Sl.moved (x : Sl) (b : Bk) (d2 : Addr) (ps : Kv) : Sl :=
  if x.s + 1 = x.o.ds.length then ⟨{ b with ds := mvL b.ds ps }, none, 0⟩ else ⟨x.o.set x.s (d2, []), some { b with ds := mvL b.ds ps }, x.s + 1⟩
theorem SlI.move (h : SlI x kv) {d2 : Addr} (eb : x.y = some b) (es : x.o.ds[x.s]? = some (d, ps)) : SlI (x.moved b d2 ps) kv := by
  obtain ⟨hs, hbe⟩ := h.ye b eb
  have hb := (pow_sz hbe).1
  have hz := (pow_sz h.ze).1
  have hall : x.all = x.o.ds ++ b.ds := by unfold Sl.all Sl.yd; rw [eb]
  have hio : ∀ (i : Nat) (z : Addr × Kv), x.o.ds[i]? = some z → ∀ p ∈ z.2, x.s ≤ p.1.toNat % x.o.ds.length ∧ p.1.toNat % x.o.ds.length = i := by
    intro i z hi p hp
    have hil := (List.getElem?_eq_some_iff.mp hi).1
    have := h.hm i z (by rw [hall, List.getElem?_append_left hil]; exact hi) p hp
    unfold Sl.hi at this
    rw [eb] at this
    dsimp only at this
    split at this <;> omega
  have hiy : ∀ (i : Nat) (z : Addr × Kv), b.ds[i]? = some z → ∀ p ∈ z.2, p.1.toNat % x.o.ds.length < x.s ∧ p.1.toNat % b.ds.length = i := by
    intro i z hi p hp
    have := h.hm (x.o.ds.length + i) z (by rw [hall, List.getElem?_append_right (by omega)]; rw [Nat.add_sub_cancel_left]; exact hi) p hp
    unfold Sl.hi at this
    rw [eb] at this
    dsimp only at this
    have hm := Nat.mod_lt p.1.toNat (show 0 < x.o.ds.length by omega)
    split at this <;> omega
  have p0 : (ps ++ kvL (x.o.ds.eraseIdx x.s) ++ kvL b.ds).Perm kv := by
    refine List.Perm.trans ?_ h.pm
    rw [hall, kvL_app]
    exact (kvL_at es).symm.append_right _
  have p1 : (kvL (x.o.ds.eraseIdx x.s) ++ (kvL b.ds ++ ps)).Perm kv := by
    refine List.Perm.trans ?_ p0
    rw [List.append_assoc, ← List.append_assoc]
    exact List.perm_append_comm
  have ndb : (ksP (kvL b.ds ++ ps)).Nodup := by
    have := (ksP_perm p1).nodup_iff.mpr h.nd
    have e : ksP (kvL (x.o.ds.eraseIdx x.s) ++ (kvL b.ds ++ ps)) = ksP (kvL (x.o.ds.eraseIdx x.s)) ++ ksP (kvL b.ds ++ ps) := List.map_append
    rw [e] at this
    exact (List.nodup_append.mp this).2.1
  obtain ⟨q1, q2⟩ := mvL_law ps b.ds (by omega) ndb
  have hps := hio _ _ es
  unfold Sl.moved
  by_cases c : x.s + 1 = x.o.ds.length
  · rw [if_pos c]
    have he : kvL (x.o.ds.eraseIdx x.s) = [] := by
      refine List.eq_nil_iff_forall_not_mem.mpr fun p hp => ?_
      obtain ⟨i, z, hi, hz2⟩ := kvL_mem.mp hp
      rw [List.getElem?_eraseIdx] at hi
      split at hi
      · have := hio _ _ hi p hz2; omega
      · have := (List.getElem?_eq_some_iff.mp hi).1; omega
    have hall2 : Sl.all ⟨{ b with ds := mvL b.ds ps }, none, 0⟩ = mvL b.ds ps := List.append_nil _
    refine ⟨by show ∃ e, _ ∧ _ ∧ (mvL b.ds ps).length = _; rw [mvL_len]; exact hbe, fun _ => rfl, nofun, fun i z hi p hp => ?_, ?_, h.nd, h.nn⟩
    · rw [hall2] at hi
      show p.1.toNat % (mvL b.ds ps).length = i
      rw [mvL_len]
      rcases q2 i z hi p hp with ⟨z', e1, e2⟩ | ⟨_, e2⟩
      · exact (hiy _ _ e1 p e2).2
      · exact e2
    · rw [hall2]
      refine q1.trans ?_
      rw [he, List.nil_append] at p1
      exact p1
  · rw [if_neg c]
    have hall2 : Sl.all ⟨x.o.set x.s (d2, []), some { b with ds := mvL b.ds ps }, x.s + 1⟩ = x.o.ds.set x.s (d2, []) ++ mvL b.ds ps := rfl
    refine ⟨by show ∃ e, _ ∧ _ ∧ (x.o.ds.set x.s _).length = _; rw [List.length_set]; exact h.ze, nofun, fun b' e => ?_, fun i z hi p hp => ?_, ?_, h.nd, h.nn⟩
    · cases e
      refine ⟨?_, ?_⟩
      · show x.s + 1 < (x.o.ds.set x.s _).length
        rw [List.length_set]; omega
      · show ∃ e, _ ∧ _ ∧ (mvL b.ds ps).length = _
        rw [mvL_len]; exact hbe
    · rw [hall2] at hi
      show (if p.1.toNat % (x.o.ds.set x.s (d2, [])).length < x.s + 1 then (x.o.ds.set x.s (d2, [])).length + p.1.toNat % (mvL b.ds ps).length else p.1.toNat % (x.o.ds.set x.s (d2, [])).length) = i
      rw [List.length_set, mvL_len]
      by_cases ci : i < x.o.ds.length
      · rw [List.getElem?_append_left (by rw [List.length_set]; exact ci)] at hi
        by_cases ci2 : x.s = i
        · subst ci2
          rw [List.getElem?_set_self ci] at hi
          cases hi
          cases hp
        · rw [List.getElem?_set_ne ci2] at hi
          have := hio _ _ hi p hp
          rw [if_neg (by omega)]
          exact this.2
      · rw [List.getElem?_append_right (by rw [List.length_set]; omega), List.length_set] at hi
        rcases q2 _ z hi p hp with ⟨z', e1, e2⟩ | ⟨e1, e2⟩
        · have := hiy _ _ e1 p e2
          rw [if_pos (by omega)]
          omega
        · have := hps p e1
          rw [if_pos (by omega)]
          omega
    · rw [hall2, kvL_app]
      refine List.Perm.trans ?_ p1
      refine ((kvL_set es).append q1)
/-- a new row of empty lots begins -/
theorem SlI.begin (h : SlI x kv) (e : x.y = none) (he : ∀ z ∈ b.ds, z.2 = []) (hb : ∃ e, 2 ≤ e ∧ e ≤ 8 ∧ b.ds.length = 2 ^ e) : SlI { x with y := some b } kv := by
  have hz := (pow_sz h.ze).1
  have hall : x.all = x.o.ds := by unfold Sl.all Sl.yd; rw [e]; exact List.append_nil _
  have hnil : kvL b.ds = [] := List.eq_nil_iff_forall_not_mem.mpr fun p hp => by
    obtain ⟨i, z, hi, hz2⟩ := kvL_mem.mp hp
    rw [he z (List.mem_iff_getElem?.mpr ⟨i, hi⟩)] at hz2
    cases hz2
  refine ⟨h.ze, nofun, fun b' e2 => ?_, fun i z hi p hp => ?_, ?_, h.nd, h.nn⟩
  · cases e2
    exact ⟨by rw [show ({ x with y := some b } : Sl).s = x.s from rfl, h.y0 e]; show 0 < x.o.ds.length; omega, hb⟩
  · have hi : (x.o.ds ++ b.ds)[i]? = some z := hi
    show (if p.1.toNat % x.o.ds.length < x.s then x.o.ds.length + p.1.toNat % b.ds.length else p.1.toNat % x.o.ds.length) = i
    rw [if_neg (by rw [h.y0 e]; omega)]
    by_cases ci : i < x.o.ds.length
    · rw [List.getElem?_append_left ci] at hi
      have := h.hm i z (by rw [hall]; exact hi) p hp
      unfold Sl.hi at this
      rw [e] at this
      exact this
    · rw [List.getElem?_append_right (by omega)] at hi
      rw [he z (List.mem_iff_getElem?.mpr ⟨_, hi⟩)] at hp
      cases hp
  · show (kvL (x.o.ds ++ b.ds)).Perm kv
    rw [kvL_app, hnil, List.append_nil, ← hall]
    exact h.pm
end
end Z
namespace Z
open PySem PySem.Spec PyProof.Rows L2
/-- which rows stand, what was moved -/
def Sl.st (x : Sl) : Nat × Option Nat × Nat := (x.o.ds.length, x.y.map (·.ds.length), x.s)
def mvS : Nat × Option Nat × Nat → Nat × Option Nat × Nat
  | (z, none, s) => (z, none, s)
  | (z, some y, s) => if s + 1 = z then (y, none, 0) else (z, some y, s + 1)
def nrow (z m : Nat) : Option Nat := if z < m ∧ z < 256 then some (2 * z) else if 4 * m < z ∧ 4 < z then some (z / 2) else none
def bgS (m : Nat) : Nat × Option Nat × Nat → Nat × Option Nat × Nat
  | (z, none, s) => (z, nrow z m, s)
  | st => st
def turnS (m : Nat) (st : Nat × Option Nat × Nat) : Nat × Option Nat × Nat := bgS m (mvS st)
section
variable {x : Sl} {i : Nat} {w : Addr × Kv} {b : Bk} {d2 : Addr} {ps : Kv}
theorem Sl.set_st (x : Sl) (i : Nat) (w : Addr × Kv) : (x.set i w).st = x.st := by
  unfold Sl.st
  rw [Sl.set_len, Sl.set_y, Sl.set_s]
theorem Sl.moved_st (e : x.y = some b) : (x.moved b d2 ps).st = mvS x.st := by
  unfold Sl.moved Sl.st mvS
  rw [e]
  dsimp only [Option.map]
  by_cases c : x.s + 1 = x.o.ds.length
  · rw [if_pos c, if_pos c]
    dsimp only
    rw [mvL_len]
  · rw [if_neg c, if_neg c]
    dsimp only [Bk.set]
    rw [mvL_len, List.length_set]
end
end Z
namespace Z
open PySem PySem.Spec PyProof.Rows L2
theorem SlI.kvl {x : Sl} {kv : Kv} (h : SlI x kv) {i : Nat} {d : Addr} {l : Kv} (e : x.all[i]? = some (d, l)) : l.length ≤ kv.length := by
  have := ((kvL_at e).symm.trans h.pm).length_eq
  rw [List.length_append] at this
  omega
end Z
namespace Z
open PySem PySem.Spec PyProof.Rows L2
theorem putP_le (kv : Kv) (k v : Int) : (putP kv k v).length ≤ kv.length + 1 := by
  unfold putP
  split
  · rw [List.length_map]; omega
  · rw [List.length_append, List.length_singleton]; omega
theorem mv1_kvl (ds : Lots) (p : Int × Int) : (kvL (mv1 ds p)).length ≤ (kvL ds).length + 1 := by
  unfold mv1
  split
  · rename_i z e
    have h1 := (kvL_at (d := z.1) (l := z.2) e).length_eq
    have h2 := (kvL_set (d := z.1) (d' := z.1) (l := z.2) (x := putP z.2 p.1 p.2) e).length_eq
    have h3 := putP_le z.2 p.1 p.2
    rw [List.length_append] at h1 h2
    omega
  · omega
theorem mvL_kvl : ∀ (ps : Kv) (ds : Lots), (kvL (mvL ds ps)).length ≤ (kvL ds).length + ps.length
  | [], _ => Nat.le_refl _
  | p :: r, ds => by
    have h1 := mvL_kvl r (mv1 ds p)
    have h2 := mv1_kvl ds p
    show (kvL (mvL (mv1 ds p) r)).length ≤ _
    rw [List.length_cons]
    omega
end Z

/-! Z17: owned rows of slots on the heap; a comprehension over a range that makes owned things; a dict locked by its loop. -/
namespace Z
open PySem PySem.Spec PyProof.Rows L2
section
variable {K : PySem.W.Frag} {B H H1 : Hp} {L : List Cell} {D : Addr} {Q : VK} {g : TG} {tt : TT} {te : TE} {vs : List Nat} {σ : L2.St} {acc : List V} {y : V} {Nx : Hp → Prop}
theorem LC.rangeA {lo : Int} {n : Nat} (w : W B L H1) (hD : H1 D = none) (hlen : n < sizeLine) (Pv : Nat → Hp → List Cell → List V → Prop) (h0 : Pv 0 B [] [])
    (hs : ∀ (i : Nat) B' A acc H (Nx : Hp → Prop), i < n → Same B B' → W B' ((D, .lst acc) :: (A ++ L)) H → Pv i B' A acc → acc.length ≤ i → acc.length < sizeLine →
      (∀ B'' A' acc' H', Same B' B'' → W B'' ((D, .lst acc') :: (A' ++ L)) H' → Pv (i + 1) B'' A' acc' → acc'.length ≤ i + 1 → Nx H') →
      g (.int (lo + i)) (wipe σ vs) H fun σ2 H2 => wipe σ2 vs = wipe σ vs ∧ tt σ2 H2 fun b H3 => Br b (te σ2 H3 (rAcc D Nx)) (Nx H3))
    (hd : ∀ B' A acc H, Same B B' → W B' ((D, .lst acc) :: (A ++ L)) H → Pv n B' A acc → acc.length ≤ n → Q (.ref D) H) : LC (Itr lo n) D g tt te vs σ H1 Q := by
  refine lc_range (lo := lo) (n := n) (fun i H => ∃ B' A acc, Same B B' ∧ W B' ((D, .lst acc) :: (A ++ L)) H ∧ Pv i B' A acc ∧ acc.length ≤ i) ⟨B, [], [], same_refl B, w.newL hD _, h0, Nat.le_refl _⟩
    ?_ (fun H ⟨B', A, acc, s, w', p, l⟩ => hd B' A acc H s w' p l)
  rintro i H hi ⟨B', A, acc, s, w', p, l⟩
  exact hs i B' A acc H _ hi s w' p l (by omega) fun B'' A' acc' H' s' w'' p' l' => ⟨B'', A', acc', same_trans s s', w'', p', l'⟩
end
def lotC (z : Addr × Kv) : Cell := (z.1, .dK (dkP z.2))
def rfL (ds : Lots) : List V := ds.map fun z => V.ref z.1
section
variable {B H : Hp} {L A R : List Cell} {ds : Lots} {i : Nat} {d : Addr} {l l' : Kv}
theorem rfL_len (ds : Lots) : (rfL ds).length = ds.length := List.length_map _
theorem rfL_set (h : ds[i]? = some (d, l)) : rfL (ds.set i (d, l')) = rfL ds := by
  unfold rfL
  rw [List.map_set]
  refine List.ext_getElem? fun j => ?_
  by_cases c : i = j
  · subst c
    have hi := (List.getElem?_eq_some_iff.mp h).1
    rw [List.getElem?_set_self (by rw [List.length_map]; exact hi), List.getElem?_map, h]
    rfl
  · rw [List.getElem?_set_ne c]
theorem rfL_at (h : ds[i]? = some (d, l)) : (rfL ds)[i]? = some (.ref d) := by unfold rfL; rw [List.getElem?_map, h]; rfl
theorem W.lot (w : W B (A ++ (ds.map lotC ++ R)) H) (e : ds[i]? = some (d, l)) (l' : Kv) : W B (A ++ ((ds.set i (d, l')).map lotC ++ R)) (upd H d (.dK (dkP l'))) := by
  have e1 : ds.map lotC = (ds.take i).map lotC ++ (d, .dK (dkP l)) :: (ds.drop (i + 1)).map lotC := by
    conv => lhs; rw [at_split e]
    rw [List.map_append, List.map_cons]
    rfl
  have e2 : (ds.set i (d, l')).map lotC = (ds.take i).map lotC ++ (d, .dK (dkP l')) :: (ds.drop (i + 1)).map lotC := by
    rw [set_split e, List.map_append, List.map_cons]
    rfl
  rw [e1, List.append_assoc, ← List.append_assoc, List.cons_append] at w
  rw [e2, List.append_assoc, ← List.append_assoc, List.cons_append]
  exact W.put w _
theorem W.lotG (w : W B (A ++ (ds.map lotC ++ R)) H) (e : ds[i]? = some (d, l)) : H d = some (.dK (dkP l)) :=
  w.get (List.mem_append_right _ (List.mem_append_left _ (List.mem_map.mpr ⟨(d, l), List.mem_iff_getElem?.mpr ⟨i, e⟩, rfl⟩)))
end
end Z

/-! Z18: for k, v in d.items(): the dict is locked meanwhile. -/
namespace Z
open PySem PySem.Spec PyProof.Rows L2
section
variable {σ : L2.St} {H : Hp} {D : Ends} {t : TS} {d : Addr} {u : HO} {td : TE} {R : It → Hp → Prop} {g : TG} {tb : TS} {kvs : List (Key × V)} {o : Obj}
theorem g_lock (e : H d = some u) (mu : Mut (some u)) (h : ∀ od, t ⟨fun σ' H' => H' d = some (.frz od u) ∧ D.nx σ' (upd H' d u), fun v H' => H' d = some (.frz od u) ∧ D.rt v (upd H' d u), fun σ' H' => H' d = some (.frz od u) ∧ D.bk σ' (upd H' d u), fun σ' H' => H' d = some (.frz od u) ∧ D.ct σ' (upd H' d u)⟩ σ (upd H d (.frz od u))) : tLock t D σ H := ⟨d, u, e, mu, h⟩
def rItm (R : It → Hp → Prop) (x : V) (H1 : Hp) : Prop := ∃ d o kvs, x = .ref d ∧ H1 d = some (.frz o (.dK kvs)) ∧ R (Iti d o kvs) H1
theorem g_items (h : td σ H (rItm R)) : iItems td σ H R := h
theorem r_itm (h : H d = some (.frz o (.dK kvs))) (q : R (Iti d o kvs) H) : rItm R (.ref d) H := ⟨d, o, kvs, rfl, h, q⟩
theorem FOR.items (Pv : Nat → L2.St → Hp → Prop) (h0 : Pv 0 σ H) (hl : ∀ i σ H, i ≤ kvs.length → Pv i σ H → H d = some (.frz o (.dK kvs)))
    (hs : ∀ i k v σ H T, kvs[i]? = some (k, v) → Pv i σ H → H T = none → g (.ref T) σ (upd H T (.tup [kV k, v])) fun σ2 H2 => tb { D with nx := Pv (i + 1), ct := Pv (i + 1), bk := D.nx } σ2 H2) (hd : ∀ σ H, Pv kvs.length σ H → D.nx σ H) : FOR (Iti d o kvs) g tb D σ H := by
  refine ⟨fun i m σ H => m + i = kvs.length ∧ Pv i σ H, ⟨kvs.length, by omega, h0⟩, fun i m σ H ⟨hm, p⟩ => ?_⟩
  have hq := hl i σ H (by omega) p
  by_cases c : i = kvs.length
  · subst c
    exact .inl ⟨⟨hq, Nat.le_refl _⟩, hd _ _ p⟩
  · have hi : i < kvs.length := by omega
    refine .inr ⟨⟨hq, hi⟩, Pv (i + 1), fun σ' H' h' => ⟨m - 1, by omega, by omega, h'⟩, fun x H' hy => ?_⟩
    obtain ⟨T, k, v, hkv, rfl, hT, rfl⟩ := hy
    exact hs i k v σ H T hkv p hT
end
section
variable {H : Hp} {Q : VK} {a b : Addr} {kv : Kv} {k v : Int}
theorem r_upd1 (hab : b ≠ a) (ha : H a = some (.dK (dkP kv))) (hb : H b = some (.dK [(Sum.inl k, .int v)])) (hl : kv.length < sizeLine) (q : Q .non (upd H a (.dK (dkP (putP kv k v))))) : rUpd (.ref a) [.ref b] H Q :=
  ⟨a, b, dkP kv, [(Sum.inl k, .int v)], rfl, rfl, hab, ha, hb, by rw [dkP_len, List.length_singleton]; omega, by rw [dkP_one]; exact q⟩
end
end Z
namespace Z
open PySem PySem.Spec PyProof.Rows L2
theorem rfL_mv1 (ds : Lots) (p : Int × Int) : rfL (mv1 ds p) = rfL ds := by
  unfold mv1
  split
  · rename_i z e
    exact rfL_set (d := z.1) (l := z.2) e
  · rfl
theorem rfL_mvL : ∀ (ps : Kv) (ds : Lots), rfL (mvL ds ps) = rfL ds
  | [], _ => rfl
  | p :: r, ds => (rfL_mvL r (mv1 ds p)).trans (rfL_mv1 ds p)
theorem mvL_take {ds : Lots} {ps : Kv} {i : Nat} {p : Int × Int} (h : ps[i]? = some p) : mvL ds (ps.take (i + 1)) = mv1 (mvL ds (ps.take i)) p := by
  unfold mvL
  rw [List.take_add_one, h, List.foldl_append]
  rfl
theorem dkP_at {ps : Kv} {i : Nat} {k : Key} {v : V} (h : (dkP ps)[i]? = some (k, v)) : ∃ p : Int × Int, ps[i]? = some p ∧ k = Sum.inl p.1 ∧ v = .int p.2 := by
  unfold dkP at h
  rw [List.getElem?_map] at h
  cases e : ps[i]? with
  | none => rw [e] at h; cases h
  | some p => rw [e] at h; cases h; exact ⟨p, rfl, rfl, rfl⟩
end Z
namespace Z
open PySem PySem.Spec PyProof.Rows L2
section
variable {K : PySem.W.Frag} {H : Hp} {Q : VK} {t : TA} {σ : L2.St} {r : V → List V → Hp → VK → Prop} {d : Addr} {kvs : List (Key × V)} {tk tv : TE} {k : Int} {v : V}
theorem r_bmD (h : H d = some (.dK kvs)) (q : t σ H fun xs H2 => r (.ref d) xs H2 Q) : rBm K "dict" r t σ (.ref d) H Q := ⟨.inr (.inr (.inl ⟨rfl, .inl ⟨_, h⟩⟩)), q⟩
/-- {k: v} -/
def rDisp1 (p : Addr) (Q : VK) (x y : V) (H2 : Hp) : Prop := H2 p = some (.dK []) ∧ ∃ kvs : List (Key × V), [(x, y)] = kvs.map (fun kv => (kV kv.1, kv.2)) ∧ kvs.length ≤ 15 ∧ Q (.ref p) (upd H2 p (.dK (mergeK [] kvs)))
theorem g_disp1 (h : ∀ p, H p = none → tk σ (upd H p (.dK [])) fun x H2 => tv σ H2 fun y H3 => rDisp1 p Q x y H3) : tDisp [(tk, tv)] σ H Q := h
theorem r_disp1 {p : Addr} (h : H p = some (.dK [])) (q : Q (.ref p) (upd H p (.dK [(Sum.inl k, v)]))) : rDisp1 p Q (.int k) v H := ⟨h, [(Sum.inl k, v)], rfl, by simp, q⟩
end
end Z
namespace Z
open PySem PySem.Spec PyProof.Rows L2
section
variable {K : PySem.W.Frag} {B H : Hp} {X Y L : List Cell} {D : Ends} {σ : L2.St} {ta tv : TE} {rd : V → V → Hp → VK → Prop} {f : Str} {C a dx : Addr} {fs : List (Str × V)} {i j : Int} {P : Hp → Prop} {d d2 : Addr} {o o2 : HO}
/-- an owned thing takes the place of another one -/
theorem W.inst (w : W B ((d2, o2) :: (X ++ (d, o) :: Y)) H) : W B (X ++ (d2, o2) :: Y) H := by
  have p : ((d2, o2) :: (X ++ (d, o) :: Y)).Perm ((d, o) :: (X ++ (d2, o2) :: Y)) :=
    (List.perm_middle.cons _).trans ((List.Perm.swap _ _ _).trans (List.perm_middle.symm.cons _))
  exact (w.perm p).drop1
def rAug (K : PySem.W.Frag) (tv : TE) (rd : V → V → Hp → VK → Prop) (f : Str) (σ : L2.St) (P : Hp → Prop) (x : V) (H1 : Hp) : Prop := ∃ a C dx fs v, x = .ref a ∧ H1 a = some (.ins C dx fs) ∧ Cls K C ∧ NoAttr K C f ∧ fs.lookup f = some v ∧
  tv σ H1 fun y H2 => rd v y H2 fun z H3 => ∃ dx' fs', H3 a = some (.ins C dx' fs') ∧ fs'.length < 1000 ∧ P (upd H3 a (.ins C dx' (putF f z fs')))
theorem g_fldaug (h : ta σ H (rAug K tv rd f σ (D.nx σ))) : sFldAug K ta tv rd f D σ H := h
theorem r_augA (h : H a = some (.ins C dx fs)) (c : Cls K C) (no : NoAttr K C f) (l : fs.lookup f = some (.int i)) (hl : fs.length < 1000) (q : P (upd H a (.ins C dx (putF f (.int (i + j)) fs)))) : rAug K (tC (.int j)) rAdd f σ P (.ref a) H :=
  ⟨a, C, dx, fs, .int i, rfl, h, c, no, l, i, j, rfl, rfl, dx, fs, h, hl, q⟩
theorem r_augS (h : H a = some (.ins C dx fs)) (c : Cls K C) (no : NoAttr K C f) (l : fs.lookup f = some (.int i)) (hl : fs.length < 1000) (q : P (upd H a (.ins C dx (putF f (.int (i - j)) fs)))) : rAug K (tC (.int j)) rSub f σ P (.ref a) H :=
  ⟨a, C, dx, fs, .int i, rfl, h, c, no, l, i, j, rfl, rfl, dx, fs, h, hl, q⟩
end
end Z
namespace Z
open PySem PySem.Spec PyProof.Rows L2
theorem W.sl {B H : Hp} {L L' : List Cell} (w : W B L H) (h : L'.Sublist L) : W B L' H :=
  ⟨w.sub, fun c hc => w.has c (h.mem hc), w.nd.sublist (h.map _), fun c hc => w.out c (h.mem hc)⟩
end Z

/-! Z19: try .. except C: without a name; a dict compared with {}. -/
namespace Z
open PySem PySem.Spec PyProof.Rows L2
def tTryOn (K : PySem.W.Frag) (c : Value) (tb : WX → TS) (ts : Addr → Value → Option Addr → TS) (Wout : WX) : TS := fun D σ H => tb (wOnly K c ts Wout D) D σ H
section
variable {X : Cx} {x : Str} {c : Value} {body suite : List Stmt} {b₀ : Stmt} {np pos pos' : Pos} {tb : WX → TS} {ts : Addr → Value → Option Addr → TS} {Wout : WX}
theorem ps_tryOn (hs : X.stack = X.env :: X.outer) (hf : X.env.frame = some X.env.locals) (hc : Names X x c) (tk : Takes X Wout)
    (hb : ∀ (W : WX) (pn : List (Addr × Obj)) (xe : Value → Shared → Prop), Takes (X.tr pn xe) W → PassesOwn (model X.prog X.w) X.A X.env xe → PSs (X.tr pn xe) body (tb W))
    (hsu : ∀ (a : Addr) (oe : Obj) (cls : Value) (d : Option Addr) (pn : List (Addr × Obj)), Zc cls d oe → (∃ vs, oe.data = .fields vs) → PSs (X.suite a ((a, oe) :: pn)) (b₀ :: suite) (ts a cls d)) :
    PS X (.Try body [.ExceptHandler (some (.Name x np)) none (b₀ :: suite) pos'] [] [] pos) (tTryOn X.K c tb ts Wout) := ps_try_only hs hf hc tk hb hsu
end
section
variable {K : PySem.W.Frag} {σ : L2.St} {H : Hp} {Wout : WX} {D : Ends} {cls c : Value} {d : Option Addr} {ts : Addr → Value → Option Addr → TS} {tb : WX → TS}
theorem g_tryOn (h : tb (wOnly K c ts Wout D) D σ H) : tTryOn K c tb ts Wout D σ H := h
theorem r_caughtO (hx : PySem.W.exmOne K cls c = some true) (h : ∀ a, H a = none → ts a cls d D σ H) : wOnly K c ts Wout D cls d σ H := ⟨true, hx, fun _ => h, nofun⟩
theorem r_passedO (hx : PySem.W.exmOne K cls c = some false) (h : Wout cls d σ H) : wOnly K c ts Wout D cls d σ H := ⟨false, hx, nofun, fun _ => h⟩
end
section
variable {X : Cx} {H : Hp} {Q : VK} {a b : Addr} {kvs : List (Key × V)}
def rEqD0 : R2 := fun x y H Q => ∃ a b ks, x = .ref a ∧ y = .ref b ∧ H a = some (.dK ks) ∧ H b = some (.dK []) ∧ Q (.bl (decide (ks.length = 0))) H
def rNeD0 : R2 := fun x y H Q => ∃ a b ks, x = .ref a ∧ y = .ref b ∧ H a = some (.dK ks) ∧ H b = some (.dK []) ∧ Q (.bl (!decide (ks.length = 0))) H
theorem op_eqD0 (hu : X.A.units < cLine) : OpR X (compareOp .Eq) rEqD0 := by
  intro pins s σ H x y v u Q I rx ry h
  obtain ⟨a, b, ks, rfl, rfl, ea, eb, q⟩ := h
  obtain rfl : v = Value.ref a := rx
  obtain rfl : u = Value.ref b := ry
  obtain ⟨_, ya, va, ra, da⟩ := (show ObjOk X.prog X.w H s.heap a (.dK ks) from I.hok a _ ea)
  obtain ⟨_, yb, vb, rb, db⟩ := (show ObjOk X.prog X.w H s.heap b (.dK []) from I.hok b _ eb)
  have hla : va.length = ks.length := ra.length.symm
  have hlb : vb = [] := List.eq_nil_of_length_eq_zero rb.length.symm
  subst hlb
  refine PySem.W.keq_eq (knd := mixKind X.prog X.w) (r := true) ya yb da db hu (fun e => ?_) (fin_bl I q (by rw [hla]; cases ks <;> simp))
  have : va = [] := List.eq_nil_of_length_eq_zero e
  subst this
  exact .nil
theorem op_neD0 (hu : X.A.units < cLine) : OpR X (compareOp .NotEq) rNeD0 := by
  intro pins s σ H x y v u Q I rx ry h
  obtain ⟨a, b, ks, rfl, rfl, ea, eb, q⟩ := h
  obtain rfl : v = Value.ref a := rx
  obtain rfl : u = Value.ref b := ry
  obtain ⟨_, ya, va, ra, da⟩ := (show ObjOk X.prog X.w H s.heap a (.dK ks) from I.hok a _ ea)
  obtain ⟨_, yb, vb, rb, db⟩ := (show ObjOk X.prog X.w H s.heap b (.dK []) from I.hok b _ eb)
  have hla : va.length = ks.length := ra.length.symm
  have hlb : vb = [] := List.eq_nil_of_length_eq_zero rb.length.symm
  subst hlb
  refine PySem.W.keq_ne (knd := mixKind X.prog X.w) (r := true) ya yb da db hu (fun e => ?_) (fin_bl I q (by rw [hla]; cases ks <;> simp))
  have : va = [] := List.eq_nil_of_length_eq_zero e
  subst this
  exact .nil
theorem r_eqD0 (h1 : H a = some (.dK kvs)) (h2 : H b = some (.dK [])) (q : Q (.bl (decide (kvs.length = 0))) H) : rEqD0 (.ref a) (.ref b) H Q := ⟨a, b, kvs, rfl, rfl, h1, h2, q⟩
theorem r_neD0 (h1 : H a = some (.dK kvs)) (h2 : H b = some (.dK [])) (q : Q (.bl (!decide (kvs.length = 0))) H) : rNeD0 (.ref a) (.ref b) H Q := ⟨a, b, kvs, rfl, rfl, h1, h2, q⟩
end
end Z

set_option maxHeartbeats 4000000
/-! Z20: sorted(xs, key=f), f a def of the program that answers with a pair of whole numbers. -/
namespace Z
open PySem PySem.Spec PyProof.Rows L2
def kfH (H : Hp) (u : Value) : Int × Int := match u with
  | .ref t => match H t with
    | some (.tup [.int x, .int y]) => (x, y)
    | _ => (0, 0)
  | _ => (0, 0)
def rSortBy (K : PySem.W.Frag) (f : Addr) (sp : Sp) : List V → List V → Hp → VK → Prop := fun vs zs H Q => ∃ (a : Addr) (xs : List V) (key : V → Int × Int), vs = [.ref a] ∧ zs = [.ref f] ∧ SqL K H a xs ∧ (∀ x ∈ xs, ∃ p, x = .ref p) ∧
  (∀ x ∈ xs, ∀ H1 (Q1 : VK), Same H H1 → (∀ t H2, Same H1 H2 → H2 t = some (.tup [.int (key x).1, .int (key x).2]) → Q1 (.ref t) H2) → sp [x] H1 Q1 (fun _ _ _ => False)) ∧
  ∀ ys p H', Same H H' → H p = none → H' p = some (.lst ys) → ys.Perm xs → ys.Pairwise (fun x y => SrtO.lexB (key y) (key x) = false) → Q (.ref p) H'
section
variable {X : Cx} {pins : List (Addr × Obj)} {σ : L2.St} {H : Hp} {s : Shared} {f : Addr} {fd : FuncData} {ps : List Str} {sp : Sp} {k : Nat}
theorem run_at2 (F : FnOk X.prog X.w X.K X.mg X.base (L2.CX X.prog X.w) k f fd ps sp) (hr : Room (k + 2) X.A) (hb : Binds X.K fd ps []) (I : Inv X pins σ H s) {x : V} {u : Value} {Q : VK} (r : RelV x u) (h : sp [x] H Q (fun _ _ _ => False)) :
    wpAny (model X.prog X.w) X.A.in1.in1 (call (.ref f) [u]) (EP X pins σ Q) (fun _ _ => False) s := by
  have r2 : Vals [x] [u] := .cons r .nil
  have hl := F.len _ _ _ _ h
  have hb2 := hb s [u] I.kIn (by simpa using hl)
  rw [List.append_nil] at hb2
  refine wpAny_call (codeAny_mono (F.run X.A.in1.in1 X.stack s H ⟨[u], []⟩ [u] [x] Q (fun _ _ _ => False) hr.in1.in1 I.env0.in1.in1 hb2 r2 h) fun r s' hq => ?_)
  cases r with
  | error e =>
    obtain ⟨_, _, _, _, _, _, _, _, _, _, _, _, z⟩ := hq
    exact z
  | ok fl =>
    cases fl with
    | ret u => exact I.after hq
    | next => exact False.elim hq
    | brk => exact False.elim hq
    | cont => exact False.elim hq
/-- the keyed pairs behind the sort -/
theorem sortBy_out {H : Hp} {ts : List Addr} {its : List Value} {key : V → Int × Int} {l : List Keyed} (hl : ts.length = its.length)
    (hk : ∀ (j : Nat) (t : Addr) (x : Value), ts[j]? = some t → its[j]? = some x → kfH H (.ref t) = key (backV x))
    (hp : l.Perm ((ts.map Value.ref).zip its)) (hs : SrtO.Srtd (SrtO.lt2 fun v u => SrtO.lexB (kfH H v) (kfH H u)) l) :
    ((l.map (·.2)).map backV).Perm (its.map backV) ∧ ((l.map (·.2)).map backV).Pairwise (fun x y => SrtO.lexB (key y) (key x) = false) := by
  have e2 : ((ts.map Value.ref).zip its).map (·.2) = its := List.map_snd_zip (by rw [List.length_map]; omega)
  refine ⟨?_, ?_⟩
  · have := (hp.map (·.2)).map backV
    rw [e2] at this
    exact this
  · have hm : ∀ p ∈ l, kfH H p.1 = key (backV p.2) := fun p hpm => by
      obtain ⟨j, hj⟩ := List.getElem?_of_mem (hp.mem_iff.mp hpm)
      rw [List.getElem?_zip_eq_some, List.getElem?_map] at hj
      obtain ⟨h1, h2⟩ := hj
      cases ht : ts[j]? with
      | none => rw [ht] at h1; cases h1
      | some t =>
        rw [ht] at h1
        have h1 : Value.ref t = p.1 := Option.some.inj h1
        rw [← h1]
        exact hk j t _ ht h2
    rw [List.map_map, List.pairwise_map]
    refine List.Pairwise.imp_of_mem (fun {p q} hp hq h => ?_) hs
    have h : SrtO.lexB (kfH H q.1) (kfH H p.1) = false := h
    rw [hm p hp, hm q hq] at h
    exact h
theorem vals_refs : ∀ {ts : List Addr} {us : List Value}, Vals (ts.map V.ref) us → us = ts.map Value.ref
  | [], _, .nil => rfl
  | t :: ts, _, .cons r h => by
    cases r
    rw [vals_refs h]
    rfl
theorem refs_vals : ∀ ts : List Addr, Vals (ts.map V.ref) (ts.map Value.ref)
  | [] => .nil
  | t :: ts => .cons rfl (refs_vals ts)
/-- an object of ours is tracked from now on -/
theorem inv_adopt {a : Addr} {o : HO} (I : Inv X pins σ H s) (fo : FpOk X pins H a) (hx : a ∉ X.ex) (new : ObjOk X.prog X.w (upd H a o) s.heap a o) : Inv X pins σ (upd H a o) s := by
  obtain ⟨h1, h2, h3, h4, h5, h6⟩ := fo
  have h4 : X.s_0.heap.objs.size ≤ a := h4.resolve_left hx
  have ne : ∀ b ob, X.s_0.heap.get? b = some ob → b ≠ a := fun b ob e z => by
    subst z
    exact absurd (Nat.lt_of_lt_of_le (Heap.lt_size e) h4) (Nat.lt_irrefl _)
  have nn : ∀ b u, H b = some u → b ≠ a := fun b u e z => by rw [z, h1] at e; cases e
  refine ⟨I.ok, I.os, I.bare, ⟨I.base.keep, I.base.slot, fun b ob e n hx => ?_, I.base.there, fun b xs e => ?_, fun b ob u e => ?_, fun b ps e => ?_⟩, I.loc, I.cell, ?_, fun x c e => ?_, fun p hp => ?_, fun b u e => ?_, I.len⟩
  · rw [upd_ne (ne b ob e)]; exact I.base.free b ob e n hx
  · have := I.base.tups b xs e
    rw [upd_ne (nn _ _ this)]; exact this
  · have := I.base.frzs b ob u e
    rw [upd_ne (nn _ _ this)]; exact this
  · obtain ⟨m, this⟩ := I.base.tbls b ps e
    exact ⟨m, by rw [upd_ne (nn _ _ this)]; exact this⟩
  · rw [upd_ne (Ne.symm h2)]; exact I.free
  · rw [upd_ne (h5 x c e)]; exact I.freeC x c e
  · obtain ⟨p1, p2, p3⟩ := I.pin p hp
    exact ⟨p1, by rw [upd_ne (h6 p hp)]; exact p2, p3⟩
  · by_cases hb : b = a
    · subst hb; rw [upd_same] at e; cases e; exact new
    · rw [upd_ne hb] at e
      exact (I.hok b u e).stay (fun c v _ q => q) (fun c q => by rw [upd_ne (nn _ _ q)]; exact q) fun c xs q => by rw [upd_ne (nn _ _ q)]; exact q
theorem cr_sortBy (F : FnOk X.prog X.w X.K X.mg X.base (L2.CX X.prog X.w) k f fd ps sp) (hr : Room (k + 2) X.A) (hb : Binds X.K fd ps []) (hxx : X.ex = []) : CallRK X (.builtin "sorted") [Str.ofString "key"] (rSortBy X.K f sp) := by
  intro pins s σ H vs zs us ws Q I r rz h
  obtain ⟨a, xs, key, rfl, rfl, hs, hx, hrun, q⟩ := h
  obtain rfl := Vals.ref1 r
  obtain ⟨w1, rfl, e1⟩ := vals1 rz
  obtain rfl : w1 = Value.ref f := e1
  obtain ⟨its, rv, hl, hz⟩ := I.list hs
  obtain ⟨exs, hits⟩ := refs_back rv hx
  have hz' : its.length ≤ sizeLine := by rw [← rv.length]; exact hz
  refine call_function_entry_kw kind_sorted plain_sorted entry_sorted (ksk_s1 _ _) ?_
  unfold Builtin.«sorted»
  refine wpAny_bind (m := checkCount "sorted" 1 1 _) (wpAny_pure ?_)
  refine wpAny_bind (collect_list hl.isList ?_ hz')
  refine wpAny_bind (wpAny_newList ?_ hz')
  have hsz : ((s.heap.push (seqObj "list" #[] 0)).update s.heap.objs.size (Obj.mapSeq (· ++ its.toArray))).objs.size = s.heap.objs.size + 1 := by
    rw [Heap.size_update, size_push']
  have hoL : (((s.heap.push (seqObj "list" #[] 0)).update s.heap.objs.size (Obj.mapSeq (· ++ its.toArray))).push (seqObj "list" its.toArray 0)).get? (s.heap.objs.size + 1) = some (seqObj "list" its.toArray 0) := by
    rw [← hsz]; exact Heap.get?_push_size _ rfl
  have keep : ∀ b o, s.heap.get? b = some o → (((s.heap.push (seqObj "list" #[] 0)).update s.heap.objs.size (Obj.mapSeq (· ++ its.toArray))).push (seqObj "list" its.toArray 0)).get? b = some o := fun b o q => by
    have hlt : b < s.heap.objs.size := Heap.lt_size q
    refine Heap.get?_push_of_some _ ?_
    rw [Heap.get?_update_ne _ _ _ _ (Nat.ne_of_lt hlt)]
    exact Heap.get?_push_of_some _ q
  show wpAny _ _ _ _ _ { s with heap := ((s.heap.push (seqObj "list" #[] 0)).update s.heap.objs.size (Obj.mapSeq (· ++ its.toArray))).push (seqObj "list" its.toArray 0) }
  rw [hsz]
  have ha0 : H (s.heap.objs.size + 1) = none := I.hok.fresh (Nat.le_succ _)
  have fD : FpOk X pins H (s.heap.objs.size + 1) := I.fpOk (Nat.le_succ _) ha0
  have I1 := I.kept (t' := s.toks) keep
  generalize (((s.heap.push (seqObj "list" #[] 0)).update s.heap.objs.size (Obj.mapSeq (· ++ its.toArray))).push (seqObj "list" its.toArray 0)) = h1 at *
  generalize s.heap.objs.size + 1 = D at *
  refine wpAny_bind (wpAny_holding (wpAny_call_entry_kw slot_list_sort ⟨_, hoL, rfl⟩ entry_list_sort ?_ (ksk_l1 _ _)))
  show wpAny (model X.prog X.w) X.A.in1.in1 (Builtin.«list.sort» ⟨[.ref D], [(Str.ofString "key", .ref f)]⟩) _ _ _
  rw [ksk_t1]
  unfold ksk_tree
  refine wpAny_bind (listItems_at hoL rfl ?_)
  refine wpAny_bind (listUpdate_at hoL rfl ?_ (by rw [List.size_toArray]; exact hz') (Nat.zero_le _))
  have I2 := I1.turned (t' := s.toks) (it := D) (h' := h1.update D (Obj.mapSeq fun _ => (#[] : Array Value))) (fun b o hb e => (Heap.get?_update_ne _ _ _ _ hb).trans e) fD.1 fD.2.1 fD.2.2.2.1 fD.2.2.2.2.1 fD.2.2.2.2.2
  obtain ⟨e1, ho1⟩ : ∃ e1, (h1.update D (Obj.mapSeq fun _ => (#[] : Array Value))).get? D = some (seqObj "list" #[] e1) := ⟨_, get?_update_seq hoL fun _ => #[]⟩
  refine wpAny_bind (seqEpoch_at ho1 rfl ?_)
  generalize h1.update D (Obj.mapSeq fun _ => (#[] : Array Value)) = h2 at *
  refine wpAny_bind (wpAny_newTuple ?_ (by show its.length ≤ _; exact hz'))
  refine wpAny_bind (wpAny_newList ?_ (Nat.zero_le _))
  have I3 := I2.kept (t' := s.toks) (h' := h2.push (seqObj "tuple" its.toArray 0)) (fun b o e => Heap.get?_push_of_some _ e)
  have ho3 := Heap.get?_push_of_some (seqObj "tuple" its.toArray 0) ho1
  show wpAny _ _ _ _ _ { s with heap := (h2.push (seqObj "tuple" its.toArray 0)).push (seqObj "list" #[] 0) }
  generalize h2.push (seqObj "tuple" its.toArray 0) = h3 at *
  have I4 : Inv X pins σ (upd H h3.objs.size (.lst [])) { s with heap := h3.push (seqObj "list" #[] 0) } := I3.lnew (t' := s.toks) (its := []) (ys := []) .nil (Nat.zero_le _)
  have hk0 : H h3.objs.size = none := I3.fresh
  refine wpAny_holding ?_
  show wpAny _ _ (ksk_rest D (.ref f) false its.toArray e1 (.ref h3.objs.size)) _ _ _
  have hDk : D ≠ h3.objs.size := Nat.ne_of_lt (Heap.lt_size ho3)
  have ho4 := Heap.get?_push_of_some (seqObj "list" #[] 0) ho3
  generalize h3.push (seqObj "list" #[] 0) = h4 at *
  generalize h3.objs.size = kS at *
  have sH : Same H (upd H kS (.lst [])) := same_new hk0
  have I5 : Inv X (pins ++ [(D, seqObj "list" #[] e1)]) σ (upd H kS (.lst [])) { s with heap := h4 } := I4.pins_of fun p hp => by
    rcases List.mem_append.mp hp with hp | hp
    · exact I4.pin p (List.mem_append_right _ hp)
    · rw [List.mem_singleton.mp hp]
      exact ⟨ho4, by show upd H kS (.lst []) D = none; rw [upd_ne hDk]; exact ha0, fD.2.1, fD.2.2.1, fun v e => by cases e⟩
  unfold ksk_rest
  refine wpAny_bind (wpAny_rule ?_)
  rw [List.forIn_toArray]
  refine wpAny_bind (ksk_fold (fun i s' => ∃ (H' : Hp) (ts : List Addr), Inv X (pins ++ [(D, seqObj "list" #[] e1)]) σ H' s' ∧ Same H H' ∧ H' kS = some (.lst (ts.map V.ref)) ∧ ts.length = i ∧
    ∀ (j : Nat) (t : Addr) (x : Value), ts[j]? = some t → its[j]? = some x → H' t = some (.tup [.int (key (backV x)).1, .int (key (backV x)).2])) its 0 _
    ⟨_, [], I5, sH, upd_same, rfl, fun j t x e => by simp at e⟩ ?step ?done)
  case step =>
    rintro j x s' hxj ⟨H', ts, I', sH', hK, hlen, hts⟩
    rw [Nat.zero_add] at hlen ⊢
    have hxm : x ∈ its := List.mem_of_getElem? hxj
    have hjl := (List.getElem?_eq_some_iff.mp hxj).1
    obtain ⟨ax, rfl⟩ := hits x hxm
    have hbx : (backV (Value.ref ax)) ∈ xs := by rw [exs]; exact List.mem_map.mpr ⟨_, hxm, rfl⟩
    refine wpAny_bind (wpAny_attempt (wpAny_mono (run_at2 F hr hb I' (x := backV (Value.ref ax)) (u := .ref ax) (Q := fun v H2 => ∃ t, v = .ref t ∧ Same H' H2 ∧ H2 t = some (.tup [.int (key (backV (Value.ref ax))).1, .int (key (backV (Value.ref ax))).2])) rfl (hrun _ hbx H' _ sH' fun t H2 s2 ht => ⟨t, rfl, s2, ht⟩)) (fun v s'' he => ?_) fun _ _ hF => hF.elim))
    obtain ⟨v2, H2, I2', rv2, t, rfl, s2, ht⟩ := he
    obtain rfl : v = Value.ref t := rv2
    try dsimp only
    have hK2 := s2 _ _ hK
    obtain ⟨hzk, kits, n, rk, hkl, hkg⟩ := I2'.lstM hK2
    have ek := vals_refs rk
    have hsz1 : kits.length = ts.length := by rw [ek, List.length_map]
    have I6 := I2'.lset (t' := s''.toks) (f := fun a => a.push (.ref t)) (its' := kits ++ [.ref t]) (ys := (ts ++ [t]).map V.ref) hK2 hkg (by simp) (by rw [ek, List.map_append]; exact (refs_vals ts).append (.cons rfl .nil)) (by rw [List.length_map, List.length_append, List.length_singleton]; omega)
    refine wpAny_bind (listUpdate_at hkg rfl ?_ (by rw [List.size_toArray]; omega) (by rw [Array.size_push, List.size_toArray]; omega))
    have hne : ∀ c u, H2 c = some (.tup u) → c ≠ kS := fun c u e z => by rw [z, hK2] at e; cases e
    have hneH : ∀ c u, H c = some u → c ≠ kS := fun c u e z => by rw [z, hk0] at e; cases e
    refine wpAny_pure ⟨rfl, _, ts ++ [t], I6, fun b o e => ?_, upd_same, by rw [List.length_append, List.length_singleton, hlen], fun j' t' x' e1' e2' => ?_⟩
    · rw [upd_ne (hneH b o e)]
      exact s2 _ _ (sH' b o e)
    · by_cases c : j' < ts.length
      · rw [List.getElem?_append_left c] at e1'
        have := s2 _ _ (hts j' t' x' e1' e2')
        rw [upd_ne (hne _ _ this)]
        exact this
      · rw [List.getElem?_append_right (by omega)] at e1'
        have hj0 : j' - ts.length = 0 := by
          have := (List.getElem?_eq_some_iff.mp e1').1
          rw [List.length_singleton] at this
          omega
        rw [hj0] at e1'
        have e1' : t = t' := Option.some.inj e1'
        subst e1'
        have : j' = j := by omega
        subst this
        rw [hxj] at e2'
        cases e2'
        rw [upd_ne (hne _ _ ht)]
        exact ht
  case done =>
    rintro s' ⟨H', ts, I', sH', hK, hlen, hts⟩
    rw [Nat.zero_add] at hlen
    obtain ⟨hzk, kits, n, rk, hkl, hkg⟩ := I'.lstM hK
    have ek := vals_refs rk
    subst ek
    try dsimp only
    refine wpAny_bind (listItems_at hkg rfl ?_)
    have hgD := (I'.pin (D, seqObj "list" #[] e1) (List.mem_append_right _ (List.mem_append_right _ (List.mem_singleton.mpr rfl))))
    have hkf : ∀ j t x, ts[j]? = some t → its[j]? = some x → kfH H' (.ref t) = key (backV x) := fun j t x e2 e3 => by
      have := hts j t x e2 e3
      unfold kfH
      dsimp only
      rw [this]
    have hpair : ∀ v ∈ ts.map Value.ref, Srt.IsPair s'.heap v (kfH H' v).1 (kfH H' v).2 := fun v hv => by
      obtain ⟨t, htm, rfl⟩ := List.mem_map.mp hv
      obtain ⟨j, hj⟩ := List.getElem?_of_mem htm
      have hjl := (List.getElem?_eq_some_iff.mp hj).1
      obtain ⟨x, hxj⟩ : ∃ x, its[j]? = some x := ⟨_, List.getElem?_eq_getElem (by omega)⟩
      have ht := hts j t x hj hxj
      rw [hkf j t x hj hxj]
      obtain ⟨_, its2, r2, o, ho, hc, n, hd⟩ := I'.hok _ _ ht
      obtain ⟨u1, u2, rfl, ri, rj⟩ := vals2 r2
      obtain ⟨t1, rfl⟩ := ri
      obtain ⟨t2, rfl⟩ := rj
      exact ⟨t, o, t1, t2, n, rfl, ho, hc, hd⟩
    have hzs : ((ts.map Value.ref).toArray.zip its.toArray).toList = (ts.map Value.ref).zip its := by
      rw [ksk_zip]
    -- the tail
    have tail : ∀ (P : PySem.Fin → Shared → Prop) (E : Value → Shared → Prop), (∀ s_f H_f ys, Inv X pins σ H_f s_f → Same H H_f → H_f D = some (.lst ys) → ys.Perm xs → ys.Pairwise (fun x y => SrtO.lexB (key y) (key x) = false) → P (.done (.ret .none)) s_f) →
        ∀ st' : SortSt, SrtO.Srtd (SrtO.lt2 fun v u => SrtO.lexB (kfH H' v) (kfH H' u)) (arrOf st').toList → (arrOf st').toList.Perm ((ts.map Value.ref).zip its) → failedOf st' = none →
        wpAny (model X.prog X.w) X.A.in1.in1 (ksk_tail D false e1 (.ref kS) st') P E s' := by
      intro P E hP st' hs1 hp1 hf
      obtain ⟨o1, o2⟩ := sortBy_out (H := H') (ts := ts) (its := its) (key := key) (l := (arrOf st').toList) hlen hkf hp1 hs1
      rw [← exs] at o1
      have hml : ∀ u ∈ (arrOf st').toList.map (·.2), ∃ a, u = Value.ref a := fun u hu => by
        obtain ⟨p, hp, rfl⟩ := List.mem_map.mp hu
        exact hits _ (List.of_mem_zip (hp1.mem_iff.mp hp)).2
      have hal : (arrOf st').size = its.length := by
        have := hp1.length_eq
        rw [List.length_zip, List.length_map, Array.length_toList] at this
        omega
      unfold ksk_tail
      try dsimp only
      refine wpAny_bind (listUpdate_at hkg rfl ?_ (by rw [List.size_toArray, List.length_map]; omega) (Nat.zero_le _))
      refine wpAny_bind (wpAny_letGo ?_)
      have I7 := I'.lset (t' := s'.toks) (f := fun _ => #[]) (its' := []) (ys := []) hK hkg rfl .nil (Nat.zero_le _)
      have hgD := (I7.pin (D, seqObj "list" #[] e1) (List.mem_append_right _ (List.mem_append_right _ (List.mem_singleton.mpr rfl))))
      have I8 := I7.unpinned
      have hgD1 : (s'.heap.update kS (Obj.mapSeq fun _ => (#[] : Array Value))).get? D = some (seqObj "list" #[] e1) := hgD.1
      refine wpAny_bind (seqEpoch_at hgD1 rfl ?_)
      refine wpAny_bind (listUpdate_at hgD1 rfl ?_ (Nat.zero_le _) (by simp only [Bool.false_eq_true, if_false, Array.size_map]; omega))
      rw [hf]
      simp only [bne_self_eq_false, Bool.false_eq_true, if_false]
      have fD2 : FpOk X pins (upd H' kS (.lst [])) D := ⟨hgD.2.1, fD.2⟩
      have I9 := I8.turned (t' := s'.toks) (it := D) (h' := (s'.heap.update kS (Obj.mapSeq fun _ => (#[] : Array Value))).update D (Obj.mapSeq fun _ => (arrOf st').map (·.2))) (fun b o hb e => (Heap.get?_update_ne _ _ _ _ hb).trans e) fD2.1 fD2.2.1 fD2.2.2.2.1 fD2.2.2.2.2.1 fD2.2.2.2.2.2
      have hc := get?_update_seq hgD1 (fun _ => (arrOf st').map (·.2))
      obtain ⟨c2, hc2⟩ : ∃ c2, ((s'.heap.update kS (Obj.mapSeq fun _ => (#[] : Array Value))).update D (Obj.mapSeq fun _ => (arrOf st').map (·.2))).get? D = some (seqObj "list" ((arrOf st').map (·.2)) c2) := ⟨_, hc⟩
      have hv : Vals (((arrOf st').toList.map (·.2)).map backV) ((arrOf st').toList.map (·.2)) := vals_back hml
      have e9 : ((arrOf st').toList.map (·.2)).toArray = (arrOf st').map (·.2) := by
        apply Array.ext'
        rw [Array.toList_map]
      have hlz : (((arrOf st').toList.map (·.2)).map backV).length ≤ sizeLine := by rw [o1.length_eq]; exact hz
      have I10 := inv_adopt I9 (o := .lst (((arrOf st').toList.map (·.2)).map backV)) fD2 (by rw [hxx]; simp) ⟨hlz, _, c2, hv, by rw [e9]; exact hc2⟩
      refine wpAny_pure (hP _ _ _ I10 (fun b o e => ?_) upd_same o1 o2)
      have hbD : b ≠ D := fun z => by rw [z, ha0] at e; cases e
      have hbk : b ≠ kS := fun z => by rw [z, hk0] at e; cases e
      rw [upd_ne hbD, upd_ne hbk]
      exact sH' b o e
    have hsz2 : ((ts.map Value.ref).toArray.zip its.toArray).size = its.length := by rw [Array.size_zip, List.size_toArray, List.size_toArray, List.length_map, hlen, Nat.min_self]
    unfold ksk_end
    try dsimp only
    simp only [Bool.false_eq_true, if_false]
    have fin : ∀ s_f H_f ys, Inv X pins σ H_f s_f → Same H H_f → H_f D = some (.lst ys) → ys.Perm xs → ys.Pairwise (fun x y => SrtO.lexB (key y) (key x) = false) → EP X pins σ Q (.ref D) s_f := fun s_f H_f ys I2 s2 e2 p2 o2 => ⟨.ref D, H_f, I2, rfl, q ys D H_f s2 ha0 e2 p2 o2⟩
    by_cases h2 : its.toArray.size < 2
    · rw [if_pos h2, if_pos h2]
      refine wpAny_bind (wpAny_pure ?_)
      rw [StateT.run_pure]
      refine wpAny_bind (wpAny_pure ?_)
      try dsimp only
      refine tail _ _ ?_ (SortSt.mk' general' ((ts.map Value.ref).toArray.zip its.toArray) #[] 7 none) ?_ ?_ rfl
      · intro s_f H_f ys a1 a2 a3 a4 a5
        exact ⟨_, rfl, wpAny_pure ⟨_, rfl, fin s_f H_f ys a1 a2 a3 a4 a5⟩⟩
      · show SrtO.Srtd _ ((ts.map Value.ref).toArray.zip its.toArray).toList
        have hl2 : ((ts.map Value.ref).toArray.zip its.toArray).toList.length < 2 := by rw [Array.length_toList, hsz2]; rw [List.size_toArray] at h2; exact h2
        match ((ts.map Value.ref).toArray.zip its.toArray).toList, hl2 with
        | [], _ => exact List.Pairwise.nil
        | [v], _ => exact List.pairwise_singleton _ _
        | _ :: _ :: l, h => exact absurd h (by rw [List.length_cons, List.length_cons]; omega)
      · show (((ts.map Value.ref).toArray.zip its.toArray).toList).Perm _
        rw [hzs]
    · rw [if_neg h2, if_neg h2]
      rw [List.size_toArray] at h2
      have hcl : ∀ o, s'.heap.get? D = some o → o.cls ≠ .type "tuple" := fun o e z => by
        have e2 : some o = some (seqObj "list" #[] e1) := e.symm.trans hgD.1
        cases e2
        exact absurd (Value.type.inj z) (by decide)
      have hso := SrtO.pairs_sortableO (prog := X.prog) (w := X.w) (A := X.A.in1.in1) (s := s') (a := D) (vs := ts.map Value.ref) (k := kfH H') (by rw [List.length_map]; omega) hpair hcl
      have hso2 := hso s'.heap (fun b o _ e => e)
      clear hso hcl
      obtain ⟨κ, hkind, hT⟩ := hso2
      refine wpAny_bind (hkind _ _ ?_)
      refine wpAny_bind (wpAny_mono (SrtO.wpS_sortO (st0 := SortSt.mk' κ ((ts.map Value.ref).toArray.zip its.toArray) #[] 7 none)
        (Q := fun _ st' => SrtO.Srtd (SrtO.lt2 fun v u => SrtO.lexB (kfH H' v) (kfH H' u)) (arrOf st').toList ∧ SrtO.Stb (SrtO.lt2 fun v u => SrtO.lexB (kfH H' v) (kfH H' u)) (arrOf st').toList ((ts.map Value.ref).toArray.zip its.toArray).toList ∧ failedOf st' = none) (SrtO.swo2 (SrtO.swo_lex (kfH H'))) hT rfl (fun p hm => ?_) rfl rfl fun st' a1 a2 a3 => ⟨a1, a2, a3⟩) ?_ fun _ _ e => e)
      · have hm : p ∈ ((ts.map Value.ref).toArray.zip its.toArray).toList := hm
        rw [hzs] at hm
        exact (List.of_mem_zip hm).1
      · rintro ⟨⟨⟩, st'⟩ s2 ⟨rfl, hp1, hp2, hf⟩
        try dsimp only
        refine tail _ _ ?_ st' hp1 ?_ hf
        · intro s_f H_f ys a1 a2 a3 a4 a5
          exact ⟨_, rfl, wpAny_pure ⟨_, rfl, fin s_f H_f ys a1 a2 a3 a4 a5⟩⟩
        · have := hp2.perm
          rw [hzs] at this
          exact this
end
end Z

/-! Z21: lists of pairs on the heap; list(d.items()); sorted by a key. -/
namespace Z
open PySem PySem.Spec PyProof.Rows L2 LiI
def prT (B : Hp) (t : Addr) : Int × Int := match B t with
  | some (.tup [.int k, .int v]) => (k, v)
  | _ => (0, 0)
/-- ts are tuples, the pairs ps -/
structure TP (B : Hp) (ts : List Addr) (ps : Kv) : Prop where
  all : ∀ t ∈ ts, B t = some (.tup [.int (prT B t).1, .int (prT B t).2])
  eq : ps = ts.map (prT B)
theorem prT_of {B : Hp} {t : Addr} {k v : Int} (h : B t = some (.tup [.int k, .int v])) : prT B t = (k, v) := by unfold prT; rw [h]
section
variable {B B' H H' : Hp} {ts us : List Addr} {ps qs : Kv} {t : Addr} {i : Nat} {L : List Cell}
theorem TP.mono (h : TP B ts ps) (s : Same B B') : TP B' ts ps := by
  have e : ∀ t ∈ ts, prT B' t = prT B t := fun t ht => prT_of (s _ _ (h.all t ht))
  refine ⟨fun t ht => ?_, ?_⟩
  · rw [e t ht]; exact s _ _ (h.all t ht)
  · rw [h.eq]; exact List.map_congr_left fun t ht => (e t ht).symm
theorem TP.nil : TP B [] [] := ⟨nofun, rfl⟩
theorem TP.app (h : TP B ts ps) (h2 : TP B us qs) : TP B (ts ++ us) (ps ++ qs) :=
  ⟨fun t ht => (List.mem_append.mp ht).elim (h.all t) (h2.all t), by rw [h.eq, h2.eq, List.map_append]⟩
theorem TP.one {k v : Int} (h : B t = some (.tup [.int k, .int v])) : TP B [t] [(k, v)] :=
  ⟨fun t' ht => by rw [List.mem_singleton.mp ht, prT_of h]; exact h, by rw [List.map_singleton, prT_of h]⟩
theorem TP.len (h : TP B ts ps) : ts.length = ps.length := by rw [h.eq, List.length_map]
theorem TP.at (h : TP B ts ps) (e : ts[i]? = some t) : ∃ p : Int × Int, ps[i]? = some p ∧ B t = some (.tup [.int p.1, .int p.2]) := by
  refine ⟨prT B t, ?_, h.all t (List.mem_of_getElem? e)⟩
  rw [h.eq, List.getElem?_map, e]
  rfl
theorem TP.perm (h : TP B ts ps) (p : us.Perm ts) : ∃ qs, TP B us qs ∧ qs.Perm ps := ⟨us.map (prT B), ⟨fun t ht => h.all t (p.mem_iff.mp ht), rfl⟩, by rw [h.eq]; exact p.map _⟩
theorem TP.sub (h : TP B ts ps) (n : Nat) : TP B (ts.take n) (ps.take n) := ⟨fun t ht => h.all t (List.mem_of_mem_take ht), by rw [h.eq, List.map_take]⟩
theorem TP.ex (h : TP B ts ps) (i : Nat) (hi : i < ps.length) : ∃ t, ts[i]? = some t := ⟨_, List.getElem?_eq_getElem (by rw [h.len]; exact hi)⟩
theorem getR {i : Nat} {x : V} (h : (ts.map V.ref)[i]? = some x) : ∃ t, x = .ref t ∧ ts[i]? = some t ∧ i < ts.length := by
  rw [List.getElem?_map] at h
  cases e : ts[i]? with
  | none => rw [e] at h; cases h
  | some n => rw [e] at h; exact ⟨n, (Option.some.inj h).symm, rfl, (List.getElem?_eq_some_iff.mp e).1⟩
/-- new things came -/
theorem W.ext (w : W B L H) (s : Same H H') : W B L H' := ⟨same_trans w.sub s, fun c hc => s _ _ (w.has c hc), w.nd, w.out⟩
theorem W.grow (w : W B L H) (s : Same H H') (N : List Addr) (hN : ∀ b ∈ N, H b = none) : ∃ B', Same B B' ∧ W B' L H' ∧ ∀ b ∈ N, ∀ o, H' b = some o → B' b = some o := by
  classical
  refine ⟨fun b => if b ∈ N then H' b else B b, fun b o e => ?_, ⟨fun b o e => ?_, fun c hc => s _ _ (w.has c hc), w.nd, fun c hc => ?_⟩, fun b hb o e => ?_⟩
  · have nb : b ∉ N := fun hb => by
      have := w.sub _ _ e
      rw [hN b hb] at this
      cases this
    show (if b ∈ N then H' b else B b) = some o
    rw [if_neg nb]
    exact e
  · have e : (if b ∈ N then H' b else B b) = some o := e
    by_cases hb : b ∈ N
    · rw [if_pos hb] at e; exact e
    · rw [if_neg hb] at e; exact s _ _ (w.sub _ _ e)
  · show (if c.1 ∈ N then H' c.1 else B c.1) = none
    have nb : c.1 ∉ N := fun hb => by
      have := w.has c hc
      rw [hN _ hb] at this
      cases this
    rw [if_neg nb]
    exact w.out c hc
  · show (if b ∈ N then H' b else B b) = some o
    rw [if_pos hb]
    exact e
/-- a new thing that came is owned -/
theorem W.own {p : Addr} {o : HO} (w : W B L H) (s : Same H H') (hp : H p = none) (e : H' p = some o) : W B ((p, o) :: L) H' := by
  have w' := w.ext s
  refine ⟨w'.sub, fun c hc => ?_, List.nodup_cons.mpr ⟨w.freeL hp, w.nd⟩, fun c hc => ?_⟩
  · rcases List.mem_cons.mp hc with rfl | hc
    · exact e
    · exact w'.has c hc
  · rcases List.mem_cons.mp hc with rfl | hc
    · exact w.freeB hp
    · exact w.out c hc
theorem W.ownN {p : Addr} {o : HO} (w : W B L H') (hp : H p = none) (hB : B p = none) (hL : p ∉ L.map (·.1)) (e : H' p = some o) : W B ((p, o) :: L) H' := by
  refine ⟨w.sub, fun c hc => ?_, List.nodup_cons.mpr ⟨hL, w.nd⟩, fun c hc => ?_⟩
  · rcases List.mem_cons.mp hc with rfl | hc
    · exact e
    · exact w.has c hc
  · rcases List.mem_cons.mp hc with rfl | hc
    · exact hB
    · exact w.out c hc
end
/-! list(d.items()) -/
section
variable {σ : L2.St} {H B : Hp} {Q : VK} {te : TE} {d : Addr} {l : Kv} {L : List Cell}
theorem g_litems (h : te σ H fun x H1 => rItemsL x H1 Q) : tListItems te σ H Q := h
theorem paired_len {α β : Type} {R : α → β → Prop} : ∀ {xs : List α} {ys : List β}, Paired R xs ys → xs.length = ys.length
  | _, _, .nil => rfl
  | _, _, .cons _ t => by rw [List.length_cons, List.length_cons, paired_len t]
theorem tp_paired {B : Hp} : ∀ {ts : List Addr} {l : Kv}, Paired (fun (t : Addr) (q : Key × V) => B t = some (.tup [kV q.1, q.2])) ts (dkP l) → TP B ts l
  | [], [], _ => .nil
  | t :: ts, p :: l, .cons r h => (TP.one (k := p.1) (v := p.2) r).app (tp_paired (ts := ts) (l := l) h)
theorem d_litems (w : W B L H) (h : H d = some (.dK (dkP l))) (q : ∀ p ts B' H', Same B B' → B' p = some (.lst (ts.map V.ref)) → TP B' ts l → W B' L H' → Q (.ref p) H') : rItemsL (.ref d) H Q := by
  refine ⟨d, dkP l, rfl, h, fun H' p ts s hp hts hpt e hpr => ?_⟩
  obtain ⟨B', s1, w', hN⟩ := w.grow s (p :: ts) (fun b hb => (List.mem_cons.mp hb).elim (fun z => z ▸ hp) (hts b))
  refine q p ts B' H' s1 (hN p (List.mem_cons_self ..) _ e) ?_ w'
  have tp := tp_paired hpr
  exact ⟨fun t ht => by
    have e2 := tp.all t ht
    have e3 := hN t (List.mem_cons_of_mem _ ht) _ e2
    rw [prT_of e3]; exact e3, by
    rw [tp.eq]
    exact List.map_congr_left fun t ht => (prT_of (hN t (List.mem_cons_of_mem _ ht) _ (tp.all t ht))).symm⟩
end
/-! sorted(xs, key=f) -/
section
variable {K : PySem.W.Frag} {σ : L2.St} {H B : Hp} {Q : VK} {t tk : TA} {r : List V → List V → Hp → VK → Prop} {L : List Cell} {a f : Addr} {sp : Sp} {ts : List Addr} {ps : Kv}
theorem g_ckw (h : t σ H fun vs H1 => tk σ H1 fun zs H2 => r vs zs H2 Q) : tCKw r t tk σ H Q := h
def keyT (B : Hp) (κ : Int → Int × Int) : V → Int × Int
  | .ref t => κ (prT B t).1
  | _ => (0, 0)
theorem refs_perm {ys : List V} (h : ys.Perm (ts.map V.ref)) : ∃ us : List Addr, ys = us.map V.ref ∧ us.Perm ts := by
  refine ⟨ys.map (fun v => match v with | .ref t => t | _ => 0), ?_, ?_⟩
  · rw [List.map_map]
    have : ∀ y ∈ ys, (V.ref ∘ fun v => match v with | .ref t => t | _ => (0 : Addr)) y = y := fun y hy => by
      obtain ⟨t, _, rfl⟩ := List.mem_map.mp (h.mem_iff.mp hy)
      rfl
    conv => lhs; rw [← List.map_id ys]
    exact (List.map_congr_left fun y hy => this y hy).symm
  · have := h.map (fun v => match v with | V.ref t => t | _ => (0 : Addr))
    rw [List.map_map] at this
    have e : ts.map ((fun v => match v with | V.ref t => t | _ => (0 : Addr)) ∘ V.ref) = ts := by
      conv => rhs; rw [← List.map_id ts]
      rfl
    rwa [e] at this
theorem d_sortBy (κ : Int → Int × Int) (w : W B L H) (h : SqL K H a (ts.map V.ref)) (tp : TP B ts ps)
    (hf : ∀ (t : Addr) (k v : Int) (H1 : Hp) (Q1 : VK), W B L H1 → H1 t = some (.tup [.int k, .int v]) → (k, v) ∈ ps → (∀ p H2, Same H1 H2 → H2 p = some (.tup [.int (κ k).1, .int (κ k).2]) → Q1 (.ref p) H2) → sp [.ref t] H1 Q1 (fun _ _ _ => False))
    (q : ∀ (p : Addr) (us : List Addr) (qs : Kv) (H' : Hp), H p = none → Same H H' → H' p = some (.lst (us.map V.ref)) → TP B us qs → qs.Perm ps → qs.Pairwise (fun x y => SrtO.lexB (κ y.1) (κ x.1) = false) → Q (.ref p) H') : rSortBy K f sp [.ref a] [.ref f] H Q := by
  refine ⟨a, ts.map V.ref, keyT B κ, rfl, rfl, h, fun x hx => ?_, fun x hx H1 Q1 s1 q1 => ?_, fun ys p H' s hp e hpm hpw => ?_⟩
  · obtain ⟨t, _, rfl⟩ := List.mem_map.mp hx
    exact ⟨t, rfl⟩
  · obtain ⟨t, ht, rfl⟩ := List.mem_map.mp hx
    have e := tp.all t ht
    refine hf t _ _ H1 Q1 (w.ext s1) (s1 _ _ (w.sub _ _ e)) ?_ q1
    rw [tp.eq]
    exact List.mem_map.mpr ⟨t, ht, rfl⟩
  · obtain ⟨us, rfl, hus⟩ := refs_perm hpm
    obtain ⟨qs, tq, hq⟩ := tp.perm hus
    refine q p us qs H' hp s e tq hq ?_
    rw [tq.eq, List.pairwise_map]
    rw [List.pairwise_map] at hpw
    exact hpw
end
end Z

/-! Msp: the keys of a span of places, in plain Lean. -/
namespace Z
open PySem PySem.Spec PyProof.Rows L2
def plc (k : Int) : Nat := r16 k.toNat
def lotAt (ds : Lots) (i : Nat) : Kv := (ds[i]?.map (·.2)).getD []
/-- what a row's slots hold, stretch by stretch, from the q0-th one on -/
def visL (ds : Lots) (s q0 n : Nat) : Kv := ((List.range' q0 n).map fun q => lotAt ds (rv s q)).flatten
theorem visL_succ (ds : Lots) (s q0 n : Nat) : visL ds s q0 (n + 1) = visL ds s q0 n ++ lotAt ds (rv s (q0 + n)) := by
  unfold visL
  rw [List.range'_concat, List.map_append, List.flatten_append]
  simp
def spF (lo hi : Nat) (kv : Kv) : Kv := kv.filter fun p => decide (lo ≤ plc p.1 ∧ plc p.1 < hi)
def spB (lo hi : Nat) (p : Int × Int) : Prop := lo ≤ plc p.1 ∧ plc p.1 < hi
section
variable {ds : Lots} {s q0 n i : Nat} {p : Int × Int}
theorem lotAt_of {z : Addr × Kv} (h : ds[i]? = some z) : lotAt ds i = z.2 := by unfold lotAt; rw [h]; rfl
theorem lotAt_mem (h : p ∈ lotAt ds i) : ∃ z, ds[i]? = some z ∧ p ∈ z.2 := by
  unfold lotAt at h
  cases e : ds[i]? with
  | none => rw [e] at h; cases h
  | some z => rw [e] at h; exact ⟨z, rfl, h⟩
theorem vis_q (hs : s ≤ 16) {k q : Nat} (hq : q < 2 ^ s) (h : k % 2 ^ s = rv s q) : r16 k / 2 ^ (16 - s) = q := by
  rw [r16_div k hs, ← rv_mod, h, rv_rv, Nat.mod_eq_of_lt hq]
theorem vis_mem (hs : s ≤ 16) (hd : ∀ (i : Nat) (z : Addr × Kv), ds[i]? = some z → ∀ p ∈ z.2, p.1.toNat % 2 ^ s = i) (h3 : q0 + n ≤ 2 ^ s) :
    p ∈ visL ds s q0 n ↔ (∃ (i : Nat) (z : Addr × Kv), ds[i]? = some z ∧ p ∈ z.2) ∧ q0 * 2 ^ (16 - s) ≤ plc p.1 ∧ plc p.1 < (q0 + n) * 2 ^ (16 - s) := by
  have hw : 0 < 2 ^ (16 - s) := pow_pos2 _
  unfold visL
  rw [List.mem_flatten]
  constructor
  · rintro ⟨l, hl, hp⟩
    obtain ⟨q, hq, rfl⟩ := List.mem_map.mp hl
    obtain ⟨j, hj, rfl⟩ := List.mem_range'.mp hq
    rw [Nat.one_mul] at hp
    obtain ⟨z, hz, hpz⟩ := lotAt_mem hp
    have := vis_q hs (k := p.1.toNat) (q := q0 + j) (by omega) (hd _ z hz p hpz)
    refine ⟨⟨_, z, hz, hpz⟩, ?_, ?_⟩
    · unfold plc
      refine Nat.le_trans ?_ (Nat.div_mul_le_self _ (2 ^ (16 - s)))
      rw [this]
      exact Nat.mul_le_mul_right _ (by omega)
    · unfold plc
      refine (Nat.div_lt_iff_lt_mul hw).mp ?_
      rw [this]
      omega
  · rintro ⟨⟨i, z, hz, hpz⟩, h1, h2⟩
    have hi := hd i z hz p hpz
    have hq1 : q0 ≤ plc p.1 / 2 ^ (16 - s) := (Nat.le_div_iff_mul_le hw).mpr h1
    have hq2 : plc p.1 / 2 ^ (16 - s) < q0 + n := (Nat.div_lt_iff_lt_mul hw).mpr h2
    have e : plc p.1 / 2 ^ (16 - s) = rv s p.1.toNat := r16_div _ hs
    refine ⟨lotAt ds (rv s (plc p.1 / 2 ^ (16 - s))), List.mem_map.mpr ⟨_, List.mem_range'.mpr ⟨plc p.1 / 2 ^ (16 - s) - q0, by omega, by omega⟩, rfl⟩, ?_⟩
    rw [e, rv_rv, hi, lotAt_of hz]
    exact hpz
theorem vis_len {c : Nat} (h : ∀ i, (lotAt ds i).length ≤ c) : ∀ n, (visL ds s q0 n).length ≤ n * c
  | 0 => by simp [visL]
  | n + 1 => by
    rw [visL_succ, List.length_append, Nat.succ_mul]
    exact Nat.add_le_add (vis_len h n) (h _)
theorem vis_nd (hs : s ≤ 16) (hd : ∀ (i : Nat) (z : Addr × Kv), ds[i]? = some z → ∀ p ∈ z.2, p.1.toNat % 2 ^ s = i) (h3 : q0 + n ≤ 2 ^ s) (nd : ∀ (i : Nat) (z : Addr × Kv), ds[i]? = some z → z.2.Pairwise fun a b => a.1 ≠ b.1) :
    (visL ds s q0 n).Pairwise fun a b => a.1 ≠ b.1 := by
  unfold visL
  rw [List.pairwise_flatten]
  refine ⟨fun l hl => ?_, ?_⟩
  · obtain ⟨q, hq, rfl⟩ := List.mem_map.mp hl
    unfold lotAt
    cases e : ds[rv s q]? with
    | none => exact List.Pairwise.nil
    | some z => exact nd _ z e
  · rw [List.pairwise_map]
    refine List.Pairwise.imp_of_mem (fun {a b} ha hb hab x hx y hy e => ?_) (List.pairwise_lt_range' (s := q0) (n := n))
    obtain ⟨i, hi, rfl⟩ := List.mem_range'.mp ha
    obtain ⟨j, hj, rfl⟩ := List.mem_range'.mp hb
    obtain ⟨z, hz, hxz⟩ := lotAt_mem hx
    obtain ⟨z', hz', hyz⟩ := lotAt_mem hy
    have e1 := hd _ z hz x hxz
    have e2 := hd _ z' hz' y hyz
    rw [e] at e1
    have := rv_inj (e1.symm.trans e2)
    rw [Nat.mod_eq_of_lt (by omega), Nat.mod_eq_of_lt (by omega)] at this
    omega
end
section
variable {x : Sl} {kv : Kv} {b : Bk} {i : Nat} {z : Addr × Kv} {p : Int × Int}
theorem SlI.lots (h : SlI x kv) (e : x.all[i]? = some z) : z.2.Pairwise fun a b => a.1 ≠ b.1 := by
  have h1 : (ksP (kvL x.all)).Nodup := (ksP_perm h.pm).nodup_iff.mpr h.nd
  unfold ksP kvL at h1
  have h2 : ((x.all.map (·.2)).flatten).Pairwise fun a b => a.1 ≠ b.1 := List.pairwise_map.mp h1
  exact (List.pairwise_flatten.mp h2).1 z.2 (List.mem_map.mpr ⟨z, List.mem_of_getElem? e, rfl⟩)
theorem SlI.oat (h : SlI x kv) (e : x.o.ds[i]? = some z) : x.all[i]? = some z := by
  unfold Sl.all
  rw [List.getElem?_append_left (List.getElem?_eq_some_iff.mp e).1]
  exact e
theorem SlI.yat (h : SlI x kv) (ey : x.y = some b) (e : b.ds[i]? = some z) : x.all[x.o.ds.length + i]? = some z := by
  unfold Sl.all Sl.yd
  rw [ey, List.getElem?_append_right (by omega), Nat.add_sub_cancel_left]
  exact e
theorem SlI.omod (h : SlI x kv) (e : x.o.ds[i]? = some z) (hp : p ∈ z.2) : p.1.toNat % x.o.ds.length = i := by
  have hi := (List.getElem?_eq_some_iff.mp e).1
  have := h.hm i z (h.oat e) p hp
  unfold Sl.hi at this
  split at this
  · exact this
  · split at this
    · omega
    · exact this
theorem SlI.ymod (h : SlI x kv) (ey : x.y = some b) (e : b.ds[i]? = some z) (hp : p ∈ z.2) : p.1.toNat % b.ds.length = i := by
  have := h.hm _ z (h.yat ey e) p hp
  have h4 := (pow_sz h.ze).1
  have hm := Nat.mod_lt p.1.toNat (show 0 < x.o.ds.length by omega)
  unfold Sl.hi at this
  rw [ey] at this
  dsimp only at this
  split at this
  · omega
  · omega
theorem SlI.kv_mem (h : SlI x kv) : p ∈ kv ↔ (∃ (i : Nat) (z : Addr × Kv), x.o.ds[i]? = some z ∧ p ∈ z.2) ∨ ∃ b, x.y = some b ∧ ∃ (i : Nat) (z : Addr × Kv), b.ds[i]? = some z ∧ p ∈ z.2 := by
  rw [← h.pm.mem_iff, kvL_mem]
  constructor
  · rintro ⟨i, z, e, hp⟩
    unfold Sl.all at e
    by_cases c : i < x.o.ds.length
    · rw [List.getElem?_append_left c] at e
      exact .inl ⟨i, z, e, hp⟩
    · rw [List.getElem?_append_right (by omega)] at e
      unfold Sl.yd at e
      cases ey : x.y with
      | none => rw [ey] at e; cases e
      | some b => rw [ey] at e; exact .inr ⟨b, rfl, _, z, e, hp⟩
  · rintro (⟨i, z, e, hp⟩ | ⟨b, ey, i, z, e, hp⟩)
    · exact ⟨i, z, h.oat e, hp⟩
    · exact ⟨_, z, h.yat ey e, hp⟩
theorem SlI.lotlen (h : SlI x kv) (i : Nat) : (lotAt x.o.ds i).length ≤ kv.length := by
  unfold lotAt
  cases e : x.o.ds[i]? with
  | none => exact Nat.zero_le _
  | some z => exact h.kvl (h.oat e)
theorem SlI.lotleny (h : SlI x kv) (ey : x.y = some b) (i : Nat) : (lotAt b.ds i).length ≤ kv.length := by
  unfold lotAt
  cases e : b.ds[i]? with
  | none => exact Nat.zero_le _
  | some z => exact h.kvl (h.yat ey e)
/-- of the row of the bank b: the stretches of size 2 ^ s from start on to stop -/
def visB (b : Bk) (start stop : Nat) : Kv := match Nat.log2 b.ds.length with
  | s => visL b.ds s (start / 2 ^ (16 - s)) ((stop - start) / 2 ^ (16 - s))
theorem log2_pow (s : Nat) : Nat.log2 (2 ^ s) = s := Nat.log2_two_pow
/-- start and stop are ends of stretches of the row -/
theorem vis_ends {W start stop : Nat} (hW : 0 < W) (h1 : W ∣ start) (h2 : W ∣ stop) (h : start ≤ stop) : start / W * W = start ∧ (start / W + (stop - start) / W) * W = stop := by
  obtain ⟨a, rfl⟩ := h1
  obtain ⟨c, rfl⟩ := h2
  rw [← Nat.mul_sub, Nat.mul_div_cancel_left _ hW, Nat.mul_div_cancel_left _ hW]
  have : a ≤ c := Nat.le_of_mul_le_mul_left h hW
  exact ⟨Nat.mul_comm _ _, by rw [Nat.add_sub_cancel' this, Nat.mul_comm]⟩
theorem span_perm (h : SlI x kv) {lo hi start stop : Nat} (h0 : start ≤ lo) (h1 : hi ≤ stop) (h2 : stop ≤ 65536) (h3 : start ≤ stop)
    (hd : ∀ b, b = x.o ∨ x.y = some b → 65536 / b.ds.length ∣ start ∧ 65536 / b.ds.length ∣ stop) :
    (spF lo hi (visB x.o start stop) ++ spF lo hi ((x.y.map fun b => visB b start stop).getD [])).Perm (spF lo hi kv) := by
  have main : ∀ b : Bk, (∃ e, 2 ≤ e ∧ e ≤ 8 ∧ b.ds.length = 2 ^ e) → (65536 / b.ds.length ∣ start ∧ 65536 / b.ds.length ∣ stop) → (∀ (i : Nat) (z : Addr × Kv), b.ds[i]? = some z → ∀ p ∈ z.2, p.1.toNat % b.ds.length = i) → (∀ (i : Nat) (z : Addr × Kv), b.ds[i]? = some z → z.2.Pairwise fun a b => a.1 ≠ b.1) →
      (visB b start stop).Pairwise (fun a b => a.1 ≠ b.1) ∧ ∀ p, p ∈ visB b start stop ↔ (∃ (i : Nat) (z : Addr × Kv), b.ds[i]? = some z ∧ p ∈ z.2) ∧ start ≤ plc p.1 ∧ plc p.1 < stop := by
    rintro b ⟨e, e2, e8, he⟩ ⟨d1, d2⟩ hm hn
    have e16 : e ≤ 16 := by omega
    have hlog : Nat.log2 b.ds.length = e := by rw [he]; exact log2_pow e
    have hv : visB b start stop = visL b.ds e (start / 2 ^ (16 - e)) ((stop - start) / 2 ^ (16 - e)) := by
      unfold visB
      rw [hlog]
    rw [he, div16 e16] at d1 d2
    obtain ⟨v1, v2⟩ := vis_ends (pow_pos2 _) d1 d2 h3
    have hle : start / 2 ^ (16 - e) + (stop - start) / 2 ^ (16 - e) ≤ 2 ^ e := by
      refine Nat.le_of_mul_le_mul_right (c := 2 ^ (16 - e)) ?_ (pow_pos2 _)
      rw [v2, pow_mul16 e16]
      exact h2
    rw [he] at hm
    rw [hv]
    refine ⟨vis_nd e16 hm hle hn, fun p => ?_⟩
    rw [vis_mem e16 hm hle, v1, v2]
  obtain ⟨n1, m1⟩ := main x.o h.ze (hd _ (.inl rfl)) (fun i z e p hp => h.omod e hp) (fun i z e => h.lots (h.oat e))
  have key : ((visB x.o start stop) ++ ((x.y.map fun b => visB b start stop).getD [])).Pairwise (fun a b => a.1 ≠ b.1) ∧ ∀ p, spB lo hi p → (p ∈ ((visB x.o start stop) ++ ((x.y.map fun b => visB b start stop).getD [])) ↔ p ∈ kv) := by
    cases ey : x.y with
    | none =>
      show ((visB x.o start stop) ++ []).Pairwise _ ∧ ∀ p, _ → (p ∈ (visB x.o start stop) ++ [] ↔ _)
      rw [List.append_nil]
      refine ⟨n1, fun p hp => ?_⟩
      rw [m1, h.kv_mem]
      constructor
      · exact fun z => .inl z.1
      · rintro (z | ⟨b, e, _⟩)
        · exact ⟨z, Nat.le_trans h0 hp.1, Nat.lt_of_lt_of_le hp.2 h1⟩
        · rw [ey] at e; cases e
    | some b =>
      obtain ⟨n2, m2⟩ := main b (h.ye b ey).2 (hd _ (.inr ey)) (fun i z e p hp => h.ymod ey e hp) (fun i z e => h.lots (h.yat ey e))
      show ((visB x.o start stop) ++ visB b start stop).Pairwise _ ∧ ∀ p, _ → (p ∈ (visB x.o start stop) ++ visB b start stop ↔ _)
      refine ⟨List.pairwise_append.mpr ⟨n1, n2, fun p hp q hq e => ?_⟩, fun p hp => ?_⟩
      · obtain ⟨⟨i, z, ez, hpz⟩, _⟩ := (m1 p).mp hp
        obtain ⟨⟨j, u, eu, hqu⟩, _⟩ := (m2 q).mp hq
        have a1 := h.hm i z (h.oat ez) p hpz
        have a2 := h.hm _ u (h.yat ey eu) q hqu
        have hi := (List.getElem?_eq_some_iff.mp ez).1
        rw [e] at a1
        omega
      · rw [List.mem_append, m1, m2, h.kv_mem]
        have a1 := Nat.le_trans h0 hp.1
        have a2 := Nat.lt_of_lt_of_le hp.2 h1
        constructor
        · rintro (z | z)
          · exact .inl z.1
          · exact .inr ⟨b, ey, z.1⟩
        · rintro (z | ⟨b', e, z⟩)
          · exact .inl ⟨z, a1, a2⟩
          · rw [ey] at e
            cases e
            exact .inr ⟨z, a1, a2⟩
  have nodup : ∀ {l : Kv}, (l.Pairwise fun a b => a.1 ≠ b.1) → l.Nodup := fun hl => hl.imp fun h e => h (by rw [e])
  have e : spF lo hi (visB x.o start stop) ++ spF lo hi ((x.y.map fun b => visB b start stop).getD []) = spF lo hi ((visB x.o start stop) ++ ((x.y.map fun b => visB b start stop).getD [])) := by
    unfold spF
    rw [List.filter_append]
  rw [e]
  have ndk : kv.Nodup := nodup (List.pairwise_map.mp h.nd)
  refine (List.perm_ext_iff_of_nodup ((nodup key.1).filter _) (ndk.filter _)).mpr fun p => ?_
  show p ∈ List.filter _ _ ↔ p ∈ List.filter _ _
  rw [List.mem_filter, List.mem_filter]
  constructor
  · rintro ⟨z, hp⟩
    exact ⟨(key.2 p (of_decide_eq_true (p := lo ≤ plc p.1 ∧ plc p.1 < hi) hp)).mp z, hp⟩
  · rintro ⟨z, hp⟩
    exact ⟨(key.2 p (of_decide_eq_true (p := lo ≤ plc p.1 ∧ plc p.1 < hi) hp)).mpr z, hp⟩
end
/-- what a span tells -/
def SpanR (kv : Kv) (lo hi : Nat) (ps : Kv) : Prop := ps.Perm (spF lo hi kv) ∧ ps.Pairwise fun a b => plc a.1 < plc b.1 ∨ plc a.1 = plc b.1 ∧ a.1 ≤ b.1
theorem spF_none (kv : Kv) {lo hi : Nat} (h : hi ≤ lo) : spF lo hi kv = [] := by
  unfold spF
  refine List.filter_eq_nil_iff.mpr fun p _ => ?_
  rw [decide_eq_true_eq]
  omega
theorem spF_take {lo hi i : Nat} {ps : Kv} {p : Int × Int} (h : ps[i]? = some p) : spF lo hi (ps.take (i + 1)) = spF lo hi (ps.take i) ++ (if lo ≤ plc p.1 ∧ plc p.1 < hi then [p] else []) := by
  unfold spF
  rw [List.take_add_one, h, List.filter_append]
  congr 1
  show List.filter _ [p] = _
  by_cases c : lo ≤ plc p.1 ∧ plc p.1 < hi
  · rw [if_pos c]
    exact List.filter_cons_of_pos (p := fun p : Int × Int => decide (lo ≤ plc p.1 ∧ plc p.1 < hi)) (decide_eq_true c)
  · rw [if_neg c]
    exact List.filter_cons_of_neg (p := fun p : Int × Int => decide (lo ≤ plc p.1 ∧ plc p.1 < hi)) (by rw [decide_eq_false c]; decide)
theorem spF_len (lo hi : Nat) (kv : Kv) : (spF lo hi kv).length ≤ kv.length := List.length_filter_le _ _
end Z

set_option maxHeartbeats 4000000
/-! Z22: sorted of tuples of three whole numbers, any number of them. -/
namespace SrtO
open PySem PyProof.Rows Srt
abbrev Tri := Int × Int × Int
def lexT (p q : Tri) : Bool := if p.1 = q.1 then (if p.2.1 = q.2.1 then decide (p.2.2 < q.2.2) else decide (p.2.1 < q.2.1)) else decide (p.1 < q.1)
theorem lexT_iff {p q : Tri} : lexT p q = true ↔ p.1 < q.1 ∨ (p.1 = q.1 ∧ (p.2.1 < q.2.1 ∨ (p.2.1 = q.2.1 ∧ p.2.2 < q.2.2))) := by
  unfold lexT
  split
  · split
    · rw [decide_eq_true_eq]; omega
    · rw [decide_eq_true_eq]; omega
  · rw [decide_eq_true_eq]; omega
theorem lexT_no {p q : Tri} : lexT p q = false ↔ ¬ (p.1 < q.1 ∨ (p.1 = q.1 ∧ (p.2.1 < q.2.1 ∨ (p.2.1 = q.2.1 ∧ p.2.2 < q.2.2)))) := by
  rw [← lexT_iff]
  cases lexT p q <;> simp
theorem swo_tri (k : Value → Tri) : Swo fun v u => lexT (k v) (k u) := by
  refine ⟨fun x y h => ?_, fun x y z h1 h2 => ?_⟩
  · have a := lexT_iff.mp h
    refine lexT_no.mpr ?_
    omega
  · have a := lexT_no.mp h1
    have b := lexT_no.mp h2
    refine lexT_no.mpr ?_
    omega
section
variable {prog : Program} {w : World} {A : Around} {s : Shared}
def IsTri (h : Heap) (v : Value) (p : Tri) : Prop := ∃ a o t u r n, v = .ref a ∧ h.get? a = some o ∧ o.cls = .type "tuple" ∧ o.data = .seq #[.int p.1 t, .int p.2.1 u, .int p.2.2 r] n
theorem IsTri.keeps {h h' : Heap} {v : Value} {p : Tri} (q : IsTri h v p) (kp : ∀ b o, h.get? b = some o → o.cls = .type "tuple" → h'.get? b = some o) : IsTri h' v p := by
  obtain ⟨a, o, t, u, r, n, e, ho, hc, hd⟩ := q
  exact ⟨a, o, t, u, r, n, e, kp _ _ ho hc, hc, hd⟩
theorem tri_firsts {h : Heap} : ∀ {vs : List Value}, (∀ v ∈ vs, ∃ p, IsTri h v p) → ∃ fs : List Value, PySem.W.KatTups h vs fs ∧ fs.length = vs.length ∧ ∀ f ∈ fs, ∃ x t, f = Value.int x t
  | [], _ => ⟨[], PySem.W.KatTups.nil, rfl, fun _ hm => by simp at hm⟩
  | v :: vs, hp => by
    obtain ⟨fs, h1, h2, h3⟩ := tri_firsts (vs := vs) fun v' hm => hp v' (List.mem_cons_of_mem _ hm)
    obtain ⟨p, a, o, t, u, r, n, e, ho, hc, hd⟩ := hp v (List.mem_cons_self ..)
    subst e
    refine ⟨.int p.1 t :: fs, PySem.W.KatTups.cons ho hc hd rfl h1, by rw [List.length_cons, List.length_cons, h2], fun f hm => ?_⟩
    rcases List.mem_cons.mp hm with rfl | hm
    · exact ⟨_, t, rfl⟩
    · exact h3 f hm
theorem tri_cmp {vs : List Value} {k : Value → Tri} (hp : ∀ v ∈ vs, IsTri s.heap v (k v)) : Cmp prog w A s (tuples' true) (fun p => p.1 ∈ vs) (lt2 fun v u => lexT (k v) (k u)) := by
  intro p q hm hm'
  have h1 := hp _ hm
  have h2 := hp _ hm'
  show wpAny (model prog w) A (keyLt' (tuples' true) p.1 q.1) (fun r s' => s' = s ∧ r = lexT (k p.1) (k q.1)) (fun _ _ => False) s
  generalize k p.1 = x3 at h1 ⊢
  generalize k q.1 = y3 at h2 ⊢
  obtain ⟨x, y, z⟩ := x3
  obtain ⟨x', y', z'⟩ := y3
  obtain ⟨a, o, t, u, r, n, e, ho, hc, hd⟩ := h1
  obtain ⟨a', o', t', u', r', n', e', ho', hc', hd'⟩ := h2
  rw [e, e']
  unfold lexT
  dsimp only at hd hd' ⊢
  refine PySem.W.kat_lt ho hd ho' hd' ?_
  show PySem.W.KatLex prog w A true (decide (3 < 3)) _ [(.int x t, .int x' t'), (.int y u, .int y' u'), (.int z r, .int z' r')] 0 s
  refine PySem.W.kat_cons (SeqAt.EqAt.int_int x t x' t' prog w _ _ ?_)
  refine PySem.W.kat_go (fun e1 => ?_) (fun e1 => ?_)
  · have ex : x = x' := by simpa using e1
    rw [if_pos ex]
    refine PySem.W.kat_yes (PySem.W.kat_cons (SeqAt.EqAt.int_int y u y' u' prog w _ _ ?_))
    refine PySem.W.kat_go (fun e2 => ?_) (fun e2 => ?_)
    · have ey : y = y' := by simpa using e2
      rw [if_pos ey]
      refine PySem.W.kat_yes (PySem.W.kat_cons (SeqAt.EqAt.int_int z r z' r' prog w _ _ ?_))
      refine PySem.W.kat_go (fun e3 => ?_) (fun e3 => ?_)
      · have ez : z = z' := by simpa using e3
        have e4 : decide (z < z') = false := by rw [ez]; exact decide_eq_false (Int.lt_irrefl _)
        exact PySem.W.kat_yes (PySem.W.kat_nil ⟨rfl, e4.symm⟩)
      · refine PySem.W.kat_no (PySem.W.kat_one _ _ (PyProof.Rows.lt_int ?_))
        exact (show s = s ∧ decide (z < z') = decide (z < z') from ⟨rfl, rfl⟩)
    · rw [if_neg (show ¬ y = y' by simpa using e2)]
      refine PySem.W.kat_no (PySem.W.kat_one _ _ (PyProof.Rows.lt_int ?_))
      exact (show s = s ∧ decide (y < y') = decide (y < y') from ⟨rfl, rfl⟩)
  · have ex : ¬ x = x' := by simpa using e1
    rw [if_neg ex]
    exact PySem.W.kat_no (oneLt_int ⟨rfl, rfl⟩)
theorem sorted_tri {l : Addr} {vs : List Value} {k : Value → Tri} {E : Value → Shared → Prop} {Q : Value → Shared → Prop} (hl : s.heap.IsList l vs.toArray) (hz : vs.length ≤ sizeLine) (hp : ∀ v ∈ vs, IsTri s.heap v (k v))
    (h : ∀ (h' : Heap) (d : Addr) (out : List Value), Srtd (fun v u => lexT (k v) (k u)) out → Stb (fun v u => lexT (k v) (k u)) out vs → (∀ b o, s.heap.get? b = some o → h'.get? b = some o) → s.heap.objs.size ≤ d → (∃ n, h'.get? d = some (seqObj "list" out.toArray n)) → Q (.ref d) { s with heap := h' }) :
    wpAny (model prog w) A (call (.builtin "sorted") [.ref l]) Q E s := by
  refine sorted_ord (swo_tri k) hl hz (fun h2 h₁ a ha kk => ?_) fun out hs hb => ?_
  · intro h' keep
    have hp' : ∀ v ∈ vs, IsTri h' v (k v) := fun v hm => (hp v hm).keeps fun b o e c => keep b o (fun z => by
      subst z
      have e' : some o = some (seqObj "list" vs.toArray 0) := ((kk b o e).2.symm.trans ha)
      cases e'
      exact absurd (Value.type.inj c) (by decide)) (kk b o e).2
    obtain ⟨fs, h1, h2', h3⟩ := tri_firsts fun v hm => ⟨_, hp' v hm⟩
    refine ⟨tuples' true, fun Q E hq => ?_, tri_cmp (s := { s with heap := h' }) hp'⟩
    refine PySem.W.kat_kind (T := .type "int") h1 (by omega) (fun f hm => ?_) (by rfl) ?_
    · obtain ⟨x, t, rfl⟩ := h3 f hm
      exact PySem.W.Looks.now
    · have e : (Value.type "int" != Value.type "tuple") = true := by first | decide +kernel | rfl | decide
      rw [e]
      exact hq
  · exact h _ _ out hs hb (fun b o e => sortedAll_old e) (Nat.le_succ _) (sortedAll_at s.heap vs out.toArray)
end
end SrtO

namespace Z
open PySem PySem.Spec PyProof.Rows L2
def triT (B : Hp) (t : Addr) : SrtO.Tri := match B t with
  | some (.tup [.int x, .int y, .int z]) => (x, y, z)
  | _ => (0, 0, 0)
def triV (p : SrtO.Tri) : HO := .tup [.int p.1, .int p.2.1, .int p.2.2]
theorem triT_of {B : Hp} {t : Addr} {p : SrtO.Tri} (h : B t = some (triV p)) : triT B t = p := by unfold triT; rw [h]; rfl
/-- ts are tuples, the triples ps -/
structure TT3 (B : Hp) (ts : List Addr) (ps : List SrtO.Tri) : Prop where
  all : ∀ t ∈ ts, B t = some (triV (triT B t))
  eq : ps = ts.map (triT B)
section
variable {B B' H H' : Hp} {ts us : List Addr} {ps qs : List SrtO.Tri} {t : Addr} {i : Nat} {L : List Cell}
theorem TT3.mono (h : TT3 B ts ps) (s : Same B B') : TT3 B' ts ps := by
  have e : ∀ t ∈ ts, triT B' t = triT B t := fun t ht => triT_of (s _ _ (h.all t ht))
  refine ⟨fun t ht => ?_, ?_⟩
  · rw [e t ht]; exact s _ _ (h.all t ht)
  · rw [h.eq]; exact List.map_congr_left fun t ht => (e t ht).symm
theorem TT3.nil : TT3 B [] [] := ⟨nofun, rfl⟩
theorem TT3.app (h : TT3 B ts ps) (h2 : TT3 B us qs) : TT3 B (ts ++ us) (ps ++ qs) :=
  ⟨fun t ht => (List.mem_append.mp ht).elim (h.all t) (h2.all t), by rw [h.eq, h2.eq, List.map_append]⟩
theorem TT3.one {p : SrtO.Tri} (h : B t = some (triV p)) : TT3 B [t] [p] :=
  ⟨fun t' ht => by rw [List.mem_singleton.mp ht, triT_of h]; exact h, by rw [List.map_singleton, triT_of h]⟩
theorem TT3.len (h : TT3 B ts ps) : ts.length = ps.length := by rw [h.eq, List.length_map]
theorem TT3.at (h : TT3 B ts ps) (e : ts[i]? = some t) : ∃ p : SrtO.Tri, ps[i]? = some p ∧ B t = some (triV p) := by
  refine ⟨triT B t, ?_, h.all t (List.mem_of_getElem? e)⟩
  rw [h.eq, List.getElem?_map, e]
  rfl
theorem TT3.perm (h : TT3 B ts ps) (p : us.Perm ts) : ∃ qs, TT3 B us qs ∧ qs.Perm ps := ⟨us.map (triT B), ⟨fun t ht => h.all t (p.mem_iff.mp ht), rfl⟩, by rw [h.eq]; exact p.map _⟩
end
theorem valsC3 {x y z : V} {us : List Value} (r : Vals [x, y, z] us) : ∃ u w' t', us = [u, w', t'] ∧ RelV x u ∧ RelV y w' ∧ RelV z t' := by
  cases r with
  | cons r1 h =>
    cases h with
    | cons r2 h =>
      cases h with
      | cons r3 h =>
        cases h
        exact ⟨_, _, _, rfl, r1, r2, r3⟩
/-- sorted(xs), xs a list of triples -/
def rSort3 (K : PySem.W.Frag) : List V → Hp → VK → Prop := fun vs H Q => ∃ (a : Addr) (ts : List Addr), vs = [V.ref a] ∧ SqL K H a (ts.map V.ref) ∧ (∀ t ∈ ts, H t = some (triV (triT H t))) ∧
  ∀ (us : List Addr) (p : Addr), us.Perm ts → us.Pairwise (fun x y => SrtO.lexT (triT H y) (triT H x) = false) → H p = none → Q (.ref p) (upd H p (.lst (us.map V.ref)))
theorem call_sort3 {X : Cx} : CallR X (.builtin "sorted") (rSort3 X.K) := by
  intro pins s σ H vs us Q I r h
  obtain ⟨a, ts, rfl, hs, hx, q⟩ := h
  obtain ⟨its, rv, hl, hz⟩ := I.list hs
  obtain ⟨u, rfl, ru⟩ := vals1 r
  obtain rfl : u = Value.ref a := ru
  have e0 := vals_refs rv
  subst e0
  have hin : ∀ v ∈ ts.map Value.ref, ∃ t ∈ ts, v = .ref t := fun v hv => by obtain ⟨t, ht, rfl⟩ := List.mem_map.mp hv; exact ⟨t, ht, rfl⟩
  have had : ∀ t : Addr, (fun v => triT H (match v with | Value.ref t => t | _ => 0)) (Value.ref t) = triT H t := fun t => rfl
  refine SrtO.sorted_tri (k := fun v => triT H (match v with | Value.ref t => t | _ => 0)) hl.isList (by rw [List.length_map]; rw [List.length_map] at hz; exact hz) (fun v hv => ?_) fun h' d out h1 h2 kp hd hn => ?_
  · obtain ⟨t, ht, rfl⟩ := hin v hv
    obtain ⟨_, its2, r2, o, ho, hc, n, hd⟩ := I.hok _ _ (hx t ht)
    dsimp only
    generalize triT H t = p at *
    have r2 : Vals [V.int p.1, V.int p.2.1, V.int p.2.2] its2 := r2
    obtain ⟨u1, u2, u3, rfl, q1, q2, q3⟩ := valsC3 r2
    obtain ⟨t1, rfl⟩ := q1
    obtain ⟨t2, rfl⟩ := q2
    obtain ⟨t3, rfl⟩ := q3
    exact ⟨t, o, t1, t2, t3, n, rfl, ho, hc, hd⟩
  · obtain ⟨us, rfl, hus⟩ : ∃ us : List Addr, out = us.map Value.ref ∧ us.Perm ts := by
      have hp := h2.perm
      refine ⟨out.map (fun v => match v with | Value.ref t => t | _ => 0), ?_, ?_⟩
      · rw [List.map_map]
        conv => lhs; rw [← List.map_id out]
        refine List.map_congr_left fun v hv => ?_
        obtain ⟨t, _, rfl⟩ := hin v (hp.mem_iff.mp hv)
        rfl
      · have h3 := hp.map (fun v => match v with | Value.ref t => t | _ => (0 : Addr))
        rw [List.map_map] at h3
        have e : ts.map ((fun v => match v with | Value.ref t => t | _ => (0 : Addr)) ∘ Value.ref) = ts := by
          conv => rhs; rw [← List.map_id ts]
          rfl
        rwa [e] at h3
    obtain ⟨n, hn⟩ := hn
    have hn1 : H d = none := I.hok.fresh hd
    have I2 : Inv X pins σ (upd H d (.lst (us.map V.ref))) { s with heap := h' } := I.laid (t' := s.toks) kp hd ⟨by rw [List.length_map, hus.length_eq]; rw [List.length_map] at hz; exact hz, us.map Value.ref, n, refs_vals us, hn⟩
    refine ⟨.ref d, _, I2, rfl, q us d hus ?_ hn1⟩
    have h1 : (us.map Value.ref).Pairwise _ := h1
    rw [List.pairwise_map] at h1
    exact h1
theorem d_sort3 {K : PySem.W.Frag} {B H : Hp} {L : List Cell} {a : Addr} {ts : List Addr} {ps : List SrtO.Tri} {Q : VK} (w : W B L H) (h : SqL K H a (ts.map V.ref)) (tp : TT3 B ts ps)
    (q : ∀ (p : Addr) (us : List Addr) (qs : List SrtO.Tri) (B' H' : Hp), Same B B' → B' p = some (.lst (us.map V.ref)) → TT3 B' us qs → qs.Perm ps → qs.Pairwise (fun x y => SrtO.lexT y x = false) → W B' L H' → Q (.ref p) H') : rSort3 K [.ref a] H Q := by
  have e : ∀ t ∈ ts, triT H t = triT B t := fun t ht => triT_of (w.rd (tp.all t ht))
  refine ⟨a, ts, rfl, h, fun t ht => by rw [e t ht]; exact w.rd (tp.all t ht), fun us p hus hpw hp => ?_⟩
  obtain ⟨qs, tq, hq⟩ := tp.perm hus
  have s := same_new (o := .lst (us.map V.ref)) (w.freeB hp)
  refine q p us qs _ _ s upd_same (tq.mono s) hq ?_ (w.newB hp _)
  rw [tq.eq, List.pairwise_map]
  refine List.Pairwise.imp_of_mem (fun {x y} hx hy hxy => ?_) hpw
  rw [e x (hus.mem_iff.mp hx), e y (hus.mem_iff.mp hy)] at hxy
  exact hxy
end Z

set_option maxHeartbeats 4000000
/-! Z23: comprehensions over a dict; == of lists of pairs, of lists of lists. -/
namespace Z
open PySem PySem.Spec PyProof.Rows L2
section
variable {K : PySem.W.Frag} {B H H1 : Hp} {L : List Cell} {D d : Addr} {Q : VK} {g : TG} {tt : TT} {te t : TE} {vs : List Nat} {σ : L2.St} {acc : List V} {kvs : List (Key × V)} {o : Obj} {u : HO} {R : It → Hp → Prop} {td : TE}
theorem g_lockE (e : H d = some u) (mu : Mut (some u)) (h : ∀ od, t σ (upd H d (.frz od u)) fun v H' => H' d = some (.frz od u) ∧ Q v (upd H' d u)) : tLockE t σ H Q := ⟨d, u, e, mu, h⟩
def rKeys (R : It → Hp → Prop) (x : V) (H1 : Hp) : Prop := ∃ d o, x = .ref d ∧ ((∃ kvs, H1 d = some (.frz o (.dK kvs)) ∧ R (Itk d o kvs) H1) ∨ ∃ kvs, H1 d = some (.frz o (.dT kvs)) ∧ R (Itkt d o kvs) H1)
theorem g_keys (h : td σ H (rKeys R)) : iKeys td σ H R := h
theorem r_keys (h : H d = some (.frz o (.dK kvs))) (q : R (Itk d o kvs) H) : rKeys R (.ref d) H := ⟨d, o, rfl, .inl ⟨kvs, h, q⟩⟩
theorem LC.keys (w : W B L H1) (hd : ∀ B' acc H, Same B B' → W B' ((D, .lst acc) :: L) H → H d = some (.frz o (.dK kvs))) (hD : H1 D = none) (hlen : kvs.length < sizeLine) (Pv : Nat → Hp → List V → Prop) (h0 : Pv 0 B [])
    (hs : ∀ (i : Nat) (k : Key) (v : V) B' acc H (Nx : Hp → Prop), kvs[i]? = some (k, v) → Same B B' → W B' ((D, .lst acc) :: L) H → Pv i B' acc → acc.length ≤ i → acc.length < sizeLine →
      (∀ B'' acc' H', Same B' B'' → W B'' ((D, .lst acc') :: L) H' → Pv (i + 1) B'' acc' → acc'.length ≤ i + 1 → Nx H') →
      g (kV k) (wipe σ vs) H fun σ2 H2 => wipe σ2 vs = wipe σ vs ∧ tt σ2 H2 fun b H3 => Br b (te σ2 H3 (rAcc D Nx)) (Nx H3))
    (he : ∀ B' B'' acc H, Same B B'' → Same' B' B'' → B'' D = some (.lst acc) → W B'' L H → Pv kvs.length B' acc → acc.length ≤ kvs.length → Q (.ref D) H) : LC (Itk d o kvs) D g tt te vs σ H1 Q := by
  refine lc_it (walk_keys (d := d) (o := o) (kvs := kvs)) (fun i H => ∃ B' acc, Same B B' ∧ W B' ((D, .lst acc) :: L) H ∧ Pv i B' acc ∧ acc.length ≤ i) ⟨B, [], same_refl B, w.newL hD _, h0, Nat.le_refl _⟩
    (fun i H _ ⟨B', acc, s, w', _⟩ => hd B' acc H s w') ?_ (fun H ⟨B', acc, s, w', p, l⟩ => he B' _ acc H (same_trans s (same_new (w'.out _ (List.mem_cons_self ..)))) (same_new (w'.out _ (List.mem_cons_self ..))) upd_same w'.give p l)
  rintro i x H H' hi ⟨B', acc, s, w', p, l⟩ ⟨rfl, k, v, hk, rfl⟩
  exact hs i k v B' acc H' _ hk s w' p l (by omega) fun B'' acc' H' s' w'' p' l' => ⟨B'', acc', same_trans s s', w'', p', l'⟩
end
/-! data -/
def pdP (ps : Kv) : PyData := .list (ps.map fun p => .tuple [.int p.1, .int p.2])
theorem dp_pairs {K : PySem.W.Frag} {H : Hp} : ∀ {ts : List Addr} {ps : Kv}, (∀ t ∈ ts, H t = some (.tup [.int (prT H t).1, .int (prT H t).2])) → ps = ts.map (prT H) → DpAll K H (ts.map V.ref) (ps.map fun p => PyData.tuple [.int p.1, .int p.2])
  | [], _, _, rfl => .nil
  | t :: ts, _, h, rfl => .cons (.tup (.inl (.inl (h t (List.mem_cons_self ..)))) (.cons (.int _) (.cons (.int _) .nil))) (dp_pairs (fun t ht => h t (List.mem_cons_of_mem _ ht)) rfl)
theorem can_pairs : ∀ ps : Kv, PyData.canLayAll0 (ps.map fun p => PyData.tuple [.int p.1, .int p.2]) = true
  | [] => by simp [PyData.canLayAll0]
  | p :: r => by simp [PyData.canLayAll0, PyData.canLay0, can_pairs r]
theorem dep_pairs : ∀ ps : Kv, PyData.depthAll (ps.map fun p => PyData.tuple [.int p.1, .int p.2]) ≤ 1
  | [] => by simp [PyData.depthAll]
  | p :: r => by
    have := dep_pairs r
    simp only [List.map_cons, PyData.depthAll, PyData.depth]
    omega
theorem eqv_pairs : ∀ ps qs : Kv, PyData.eqvAll (ps.map fun p => PyData.tuple [.int p.1, .int p.2]) (qs.map fun p => PyData.tuple [.int p.1, .int p.2]) = decide (ps = qs)
  | [], [] => by simp [PyData.eqvAll]
  | [], _ :: _ => by simp [PyData.eqvAll]
  | _ :: _, [] => by simp [PyData.eqvAll]
  | (a, b) :: r, (c, d) :: t => by
    simp only [List.map_cons, PyData.eqvAll, PyData.eqv, eqv_pairs r t]
    by_cases h : a = c <;> by_cases h2 : b = d <;> by_cases h' : r = t <;> simp [h, h2, h']
theorem sh_pairs (ps : Kv) : SeqAt.shaped (pdP ps) = true := by
  have := dep_pairs ps
  have h2 := can_pairs ps
  refine Bool.and_eq_true_iff.mpr ⟨?_, decide_eq_true ?_⟩
  · unfold pdP
    simp only [PyData.canLay0, h2]
  · unfold pdP
    simp only [PyData.depth]
    omega
section
variable {K : PySem.W.Frag} {H : Hp} {Q : VK} {a b : Addr} {ts us : List Addr} {ps qs : Kv}
theorem TP.dp (h : TP H ts ps) (e : SqL K H a (ts.map V.ref)) : Dp K H (.ref a) (pdP ps) := .lst e (dp_pairs h.all h.eq)
theorem r_eqLP (h1 : TP H ts ps) (e1 : SqL K H a (ts.map V.ref)) (h2 : TP H us qs) (e2 : SqL K H b (us.map V.ref)) (q : Q (.bl (decide (ps = qs))) H) : rEqD K (.ref a) (.ref b) H Q :=
  ⟨_, _, h1.dp e1, h2.dp e2, sh_pairs ps, sh_pairs qs, by rw [pdP, pdP, PyData.eqv, eqv_pairs]; exact q⟩
theorem r_neLP (h1 : TP H ts ps) (e1 : SqL K H a (ts.map V.ref)) (h2 : TP H us qs) (e2 : SqL K H b (us.map V.ref)) (q : Q (.bl (!decide (ps = qs))) H) : rNeD K (.ref a) (.ref b) H Q :=
  ⟨_, _, h1.dp e1, h2.dp e2, sh_pairs ps, sh_pairs qs, by rw [pdP, pdP, PyData.eqv, eqv_pairs]; exact q⟩
theorem r_clear {xs : List V} (h : H a = some (.lst xs)) (q : Q .non (upd H a (.lst []))) : rClear (.ref a) [] H Q := ⟨a, xs, rfl, rfl, h, q⟩
end
theorem TP.w {B H : Hp} {L : List Cell} {ts : List Addr} {ps : Kv} (h : TP B ts ps) (w : W B L H) : TP H ts ps := h.mono w.sub
def rMin2 : List V → Hp → VK → Prop := fun xs H Q => ∃ i j, xs = [.int i, .int j] ∧ Q (.int (if j < i then j else i)) H
def rMax2 : List V → Hp → VK → Prop := fun xs H Q => ∃ i j, xs = [.int i, .int j] ∧ Q (.int (if j > i then j else i)) H
theorem call_min2Z {X : Cx} (hc : X.calm = true) : CallR X (.builtin "min") rMin2 := call_min2 hc
theorem call_max2Z {X : Cx} (hc : X.calm = true) : CallR X (.builtin "max") rMax2 := call_max2 hc
theorem r_min2 {i j : Int} {H : Hp} {Q : VK} (q : Q (.int (min i j)) H) : rMin2 [.int i, .int j] H Q := ⟨i, j, rfl, by
  have e : (if j < i then j else i) = min i j := by omega
  rw [e]; exact q⟩
theorem r_max2 {i j : Int} {H : Hp} {Q : VK} (q : Q (.int (max i j)) H) : rMax2 [.int i, .int j] H Q := ⟨i, j, rfl, by
  have e : (if j > i then j else i) = max i j := by omega
  rw [e]; exact q⟩
/-- the one rising arrangement -/
def srt (l : List Int) : List Int := l.mergeSort fun a b => decide (a ≤ b)
theorem srt_perm (l : List Int) : (srt l).Perm l := List.mergeSort_perm _ _
theorem srt_sorted (l : List Int) : (srt l).Pairwise (· ≤ ·) := by
  have := List.pairwise_mergeSort (le := fun a b : Int => decide (a ≤ b)) (fun a b c h1 h2 => by rw [decide_eq_true_eq] at *; omega) (fun a b => by rw [Bool.or_eq_true, decide_eq_true_eq, decide_eq_true_eq]; omega) l
  exact this.imp fun h => of_decide_eq_true h
theorem sorted_uniq {a b : List Int} (h1 : a.Pairwise (· ≤ ·)) (h2 : b.Pairwise (· ≤ ·)) (p : a.Perm b) : a = b := List.Perm.eq_of_pairwise (fun x y _ _ h h' => Int.le_antisymm h h') h1 h2 p
theorem srt_uniq {ms l : List Int} (p : ms.Perm l) (h : ms.Pairwise (· ≤ ·)) : ms = srt l := sorted_uniq h (srt_sorted l) (p.trans (srt_perm l).symm)
theorem o_sortD {H : Hp} {a : Addr} {kvs : List (Key × V)} {ns : List Int} {Q : VK} (h : H a = some (.dK kvs)) (ks : Ks kvs ns) (q : ∀ p, H p = none → Q (.ref p) (upd H p (.lst ((srt ns).map V.int)))) : rSortDI [.ref a] H Q :=
  ⟨a, kvs, ns, rfl, .inl h, ks, fun ms p pm so hp => by rw [srt_uniq pm so]; exact q p hp⟩
end Z

set_option maxHeartbeats 4000000
/-! Z24: list(d); for k in d. -/
namespace Z
open PySem PySem.Spec PyProof.Rows L2
def rListD : List V → Hp → VK → Prop := fun xs H Q => ∃ (a : Addr) (kvs : List (Key × V)), xs = [.ref a] ∧ Rd H a (.dK kvs) ∧ ∀ p, H p = none → Q (.ref p) (upd H p (.lst (kvs.map fun kv => kV kv.1)))
theorem call_listDZ {X : Cx} (hc : X.calm = true) : CallR X (.type "list") rListD := call_listD hc
theorem d_listD {B H : Hp} {L : List Cell} {a : Addr} {kvs : List (Key × V)} {ns : List Int} {Q : VK} (w : W B L H) (h : H a = some (.dK kvs)) (ks : Ks kvs ns) (q : ∀ (p : Addr) (B' H' : Hp), Same B B' → B' p = some (.lst (ns.map V.int)) → W B' L H' → Q (.ref p) H') : rListD [.ref a] H Q := by
  refine ⟨a, kvs, rfl, .inl h, fun p hp => ?_⟩
  have e : kvs.map (fun kv => kV kv.1) = ns.map V.int := by
    have := congrArg (List.map kV) ks
    rw [List.map_map, List.map_map] at this
    exact this
  rw [e]
  exact q p _ _ (same_new (w.freeB hp)) upd_same (w.newB hp _)
section
variable {K : PySem.W.Frag} {σ : L2.St} {H : Hp} {D : Ends} {tb : TS} {g : TG} {d : Addr} {o : Obj} {kvs : List (Key × V)}
theorem FOR.keys (Pv : Nat → L2.St → Hp → Prop) (h0 : Pv 0 σ H) (hl : ∀ i σ H, i ≤ kvs.length → Pv i σ H → H d = some (.frz o (.dK kvs)))
    (hs : ∀ (i : Nat) (k : Key) (v : V) σ H, kvs[i]? = some (k, v) → Pv i σ H → g (kV k) σ H fun σ2 H2 => tb { D with nx := Pv (i + 1), ct := Pv (i + 1), bk := D.nx } σ2 H2) (hd : ∀ σ H, Pv kvs.length σ H → D.nx σ H) : FOR (Itk d o kvs) g tb D σ H :=
  for_it walk_keys Pv h0 hl (fun i x σ H H' _ p ⟨e, k, v, hk, ex⟩ => by subst e; subst ex; exact hs i k v σ _ hk p) hd
end
end Z

set_option maxHeartbeats 4000000
/-! Mmk: for each key a list of tuples (moment, value): lists owned, tuples laid. -/
namespace Z
open PySem PySem.Spec PyProof.Rows L2 LiI
theorem set_mid2 {α : Type} {C : List α} {i : Nat} {x : α} (e : C[i]? = some x) (y : α) : C = C.take i ++ x :: C.drop (i + 1) ∧ C.set i y = C.take i ++ y :: C.drop (i + 1) := by
  obtain ⟨h, rfl⟩ := List.getElem?_eq_some_iff.mp e
  refine ⟨?_, List.set_eq_take_append_cons_drop .. |>.trans (by rw [if_pos h])⟩
  rw [← List.drop_eq_getElem_cons h, List.take_append_drop]
section
variable {B H : Hp} {A C R : List Cell} {i : Nat} {p : Addr} {o : HO}
theorem W.getAt (w : W B (A ++ (C ++ R)) H) (e : C[i]? = some (p, o)) : H p = some o :=
  w.get (List.mem_append_right _ (List.mem_append_left _ (List.mem_of_getElem? e)))
theorem W.setAt (w : W B (A ++ (C ++ R)) H) (e : C[i]? = some (p, o)) (o' : HO) : W B (A ++ (C.set i (p, o') ++ R)) (upd H p o') := by
  obtain ⟨e1, e2⟩ := set_mid2 e (p, o')
  have pm : ∀ x : Cell, (A ++ ((C.take i ++ x :: C.drop (i + 1)) ++ R)).Perm (x :: (A ++ ((C.take i ++ C.drop (i + 1)) ++ R))) := fun x => by
    have h1 : (C.take i ++ x :: C.drop (i + 1)).Perm (x :: (C.take i ++ C.drop (i + 1))) := List.perm_middle
    have h2 := ((h1.append_right R).append_left A)
    exact h2.trans List.perm_middle
  rw [e1] at w
  rw [e2]
  exact ((w.perm (pm (p, o))).put0 o').perm (pm (p, o')).symm
end
abbrev Mk := Int × Option Int
abbrev Mt := Addr × Mk
abbrev Lt := Int × Addr × List Mt
def dkM (ls : List Lt) : List (Key × V) := ls.map fun e => (Sum.inl e.1, .ref e.2.1)
def ltC (e : Lt) : Cell := (e.2.1, .lst (e.2.2.map fun t => V.ref t.1))
def ksM (ls : List Lt) : List Int := ls.map (·.1)
def mkL (ls : List Lt) (k : Int) : List Mt := match ls.find? fun e => decide (e.1 = k) with
  | some e => e.2.2
  | none => []
def mkM (ls : List Lt) (k : Int) : List Mk := (mkL ls k).map (·.2)
theorem dkM_ks (ls : List Lt) : Ks (dkM ls) (ksM ls) := by
  unfold Ks dkM ksM
  rw [List.map_map, List.map_map]
  rfl
theorem dkM_len (ls : List Lt) : (dkM ls).length = ls.length := List.length_map ..
theorem find_not {ls : List Lt} {k : Int} (h : k ∉ ksM ls) : ls.find? (fun e => decide (e.1 = k)) = none := by
  refine List.find?_eq_none.mpr fun e he => ?_
  have : e.1 ≠ k := fun e2 => h (List.mem_map.mpr ⟨e, he, e2⟩)
  simp [this]
theorem find_at : ∀ {ls : List Lt} {k : Int}, k ∈ ksM ls → ∃ (i : Nat) (p : Addr) (ts : List Mt), ls[i]? = some (k, p, ts) ∧ ls.find? (fun e => decide (e.1 = k)) = some (k, p, ts) ∧ ∀ j : Nat, j < i → ∀ e, ls[j]? = some e → e.1 ≠ k
  | e :: ls, k, h => by
    by_cases c : e.1 = k
    · obtain ⟨k1, p, ts⟩ := e
      cases c
      exact ⟨0, p, ts, rfl, by rw [List.find?_cons_of_pos (by simp)], fun j hj => absurd hj (Nat.not_lt_zero _)⟩
    · have h2 : k ∈ ksM ls := by
        rcases List.mem_cons.mp h with h | h
        · exact absurd h.symm c
        · exact h
      obtain ⟨i, p, ts, h3, h4, h5⟩ := find_at h2
      refine ⟨i + 1, p, ts, h3, by rw [List.find?_cons_of_neg (by simp [c])]; exact h4, fun j hj x hx => ?_⟩
      cases j with
      | zero => cases hx; exact c
      | succ j => exact h5 j (by omega) x hx
theorem dkM_get {ls : List Lt} {k : Int} {p : Addr} {ts : List Mt} (h : ls.find? (fun e => decide (e.1 = k)) = some (k, p, ts)) : valV (dkM ls) (Sum.inl k) = some (.ref p) := by
  unfold valV dkM
  rw [List.find?_map]
  have e : ((fun kv : Key × V => decide (kv.1 = Sum.inl k)) ∘ fun e : Lt => (Sum.inl e.1, V.ref e.2.1)) = fun e : Lt => decide (e.1 = k) := by
    funext e
    show decide ((Sum.inl e.1 : Key) = Sum.inl k) = decide (e.1 = k)
    rw [decide_eq_decide]
    exact ⟨fun h => Sum.inl.inj h, fun h => by rw [h]⟩
  rw [e, h]
  rfl
theorem dkM_new {ls : List Lt} {k : Int} (p : Addr) (ts : List Mt) (h : k ∉ ksM ls) : putK (dkM ls) (Sum.inl k) (.ref p) = dkM (ls ++ [(k, p, ts)]) := by
  have h1 : valV (dkM ls) (Sum.inl k) = none := (dkM_ks ls).none h
  unfold putK
  have h2 : ((dkM ls).any fun kv => decide (kv.1 = Sum.inl k)) = false := by
    rw [valV_any, h1]
    rfl
  rw [if_neg (by rw [h2]; exact Bool.false_ne_true)]
  unfold dkM
  rw [List.map_append]
  rfl
theorem dkM_set {ls : List Lt} {i : Nat} {k : Int} {p : Addr} {ts us : List Mt} (h : ls[i]? = some (k, p, ts)) : dkM (ls.set i (k, p, us)) = dkM ls := by
  unfold dkM
  rw [List.map_set]
  obtain ⟨hi, e⟩ := List.getElem?_eq_some_iff.mp h
  refine List.ext_getElem? fun j => ?_
  rw [List.getElem?_set]
  by_cases c : i = j
  · subst c
    rw [if_pos rfl, if_pos (by rw [List.length_map]; exact hi), List.getElem?_map, h]
    rfl
  · rw [if_neg c]
theorem ltC_set {ls : List Lt} {i : Nat} {k : Int} {p : Addr} {us : List Mt} : (ls.set i (k, p, us)).map ltC = (ls.map ltC).set i (p, .lst (us.map fun t => V.ref t.1)) := by
  rw [List.map_set]
  rfl
theorem ksM_set {ls : List Lt} {i : Nat} {k : Int} {p : Addr} {ts us : List Mt} (h : ls[i]? = some (k, p, ts)) : ksM (ls.set i (k, p, us)) = ksM ls := by
  unfold ksM
  rw [List.map_set]
  obtain ⟨hi, e⟩ := List.getElem?_eq_some_iff.mp h
  refine List.ext_getElem? fun j => ?_
  rw [List.getElem?_set]
  by_cases c : i = j
  · subst c
    rw [if_pos rfl, if_pos (by rw [List.length_map]; exact hi), List.getElem?_map, h]
    rfl
  · rw [if_neg c]
theorem mkL_new {ls : List Lt} {k : Int} {p : Addr} {ts : List Mt} (h : k ∉ ksM ls) (k' : Int) : mkL (ls ++ [(k, p, ts)]) k' = if k' = k then ts else mkL ls k' := by
  unfold mkL
  rw [List.find?_append]
  by_cases c : k' = k
  · subst c
    rw [find_not h, if_pos rfl]
    simp
  · rw [if_neg c]
    have : ([(k, p, ts)] : List Lt).find? (fun e => decide (e.1 = k')) = none := by
      rw [List.find?_cons_of_neg (by simp; exact fun e => c e.symm)]
      rfl
    rw [this]
    simp
theorem mkL_set : ∀ {ls : List Lt} {i : Nat} {k : Int} {p : Addr} {ts us : List Mt}, ls[i]? = some (k, p, ts) → (∀ j : Nat, j < i → ∀ e, ls[j]? = some e → e.1 ≠ k) → ∀ k', mkL (ls.set i (k, p, us)) k' = if k' = k then us else mkL ls k'
  | e :: ls, 0, k, p, ts, us, h, hj, k' => by
    cases h
    unfold mkL
    rw [List.set_cons_zero]
    by_cases c : k' = k
    · subst c
      rw [if_pos rfl, List.find?_cons_of_pos (by simp)]
    · rw [if_neg c, List.find?_cons_of_neg (by simp; exact fun e => c e.symm), List.find?_cons_of_neg (by simp; exact fun e => c e.symm)]
  | e :: ls, i + 1, k, p, ts, us, h, hj, k' => by
    have h0 : e.1 ≠ k := hj 0 (Nat.succ_pos _) e rfl
    have ih := mkL_set (ls := ls) (i := i) (us := us) h (fun j hj2 x hx => hj (j + 1) (by omega) x hx) k'
    rw [List.set_cons_succ]
    unfold mkL at ih ⊢
    by_cases c : e.1 = k'
    · have c2 : k' ≠ k := fun e2 => h0 (c.trans e2)
      rw [if_neg c2, List.find?_cons_of_pos (by simp [c]), List.find?_cons_of_pos (by simp [c])]
    · rw [List.find?_cons_of_neg (by simp [c]), List.find?_cons_of_neg (by simp [c])]
      exact ih
theorem mkL_at {ls : List Lt} {k : Int} {p : Addr} {ts : List Mt} (h : ls.find? (fun e => decide (e.1 = k)) = some (k, p, ts)) : mkL ls k = ts := by unfold mkL; rw [h]
theorem mkL_not {ls : List Lt} {k : Int} (h : k ∉ ksM ls) : mkL ls k = [] := by unfold mkL; rw [find_not h]
end Z

set_option maxHeartbeats 4000000
/-! Z25: setdefault. -/
namespace Z
open PySem PySem.Spec PyProof.Rows L2
section
variable {σ : L2.St} {H : Hp} {Q : VK} {td ty tx : TE} {a : Addr} {x y z : V} {kvs : List (Key × V)} {n : Int}
def rDSetd (Q : VK) (a : Addr) (y z : V) (H3 : Hp) : Prop := ∃ (kvs : List (Key × V)) (k : Key), H3 a = some (.dK kvs) ∧ y = kV k ∧ kvs.length < sizeLine ∧ (∀ v, valV kvs k = some v → Q v H3) ∧ (valV kvs k = none → Q z (upd H3 a (.dK (putK kvs k z))))
def rDSetd1 (Q : VK) (ty tx : TE) (σ : L2.St) (x : V) (H1 : Hp) : Prop := ∃ a, x = .ref a ∧ IsD H1 a ∧ ty σ H1 fun y H2 => tx σ H2 fun z H3 => rDSetd Q a y z H3
theorem g_dsetd (h : td σ H (rDSetd1 Q ty tx σ)) : tDSetd td ty tx σ H Q := h
theorem r_dsetd1 (hd : IsD H a) (h : ty σ H fun y H2 => tx σ H2 fun z H3 => rDSetd Q a y z H3) : rDSetd1 Q ty tx σ (.ref a) H := ⟨a, rfl, hd, h⟩
theorem r_dsetd (hd : H a = some (.dK kvs)) (hl : kvs.length < sizeLine) (h1 : ∀ v, valV kvs (Sum.inl n) = some v → Q v H) (h2 : valV kvs (Sum.inl n) = none → Q z (upd H a (.dK (putK kvs (Sum.inl n) z)))) : rDSetd Q a (.int n) z H := ⟨kvs, Sum.inl n, hd, rfl, hl, h1, h2⟩
def rDGet2 (Q : VK) (a : Addr) (y z : V) (H3 : Hp) : Prop := ∃ o, DGet H3 a y o ∧ Q (o.getD z) H3
def rDGet2a (Q : VK) (ty tx : TE) (σ : L2.St) (x : V) (H1 : Hp) : Prop := ∃ a, x = .ref a ∧ IsD H1 a ∧ ty σ H1 fun y H2 => tx σ H2 fun z H3 => rDGet2 Q a y z H3
theorem g_dget2 (h : td σ H (rDGet2a Q ty tx σ)) : tDGet2 td ty tx σ H Q := h
theorem r_dget2a (hd : IsD H a) (h : ty σ H fun y H2 => tx σ H2 fun z H3 => rDGet2 Q a y z H3) : rDGet2a Q ty tx σ (.ref a) H := ⟨a, rfl, hd, h⟩
theorem r_dget2 (hd : H a = some (.dK kvs)) (q : Q ((valV kvs (Sum.inl n)).getD z) H) : rDGet2 Q a (.int n) z H := ⟨_, DGet.k (k := Sum.inl n) hd, q⟩
end
end Z

set_option maxHeartbeats 4000000
/-! Z26: sorted(d.keys()), whole numbers. -/
namespace Z
open PySem PySem.Spec PyProof.Rows L2 LiI
def tSortKeys (te : TE) : TE := fun σ H Q => te σ H fun x H1 => rSortDI [x] H1 Q
theorem sort_keysOf {X : Cx} {pins : List (Addr × Obj)} {σ : L2.St} {H : Hp} {s : Shared} {Q : VK} {T : String} {r d : Addr} {kvs : List (Key × V)} {vs : List (Key × Value)} {ns : List Int} {OK : Heap → Prop} (hcalm : X.calm = true) (I : Inv X pins σ H s) (rel : KV kvs vs)
    (S : PySem.W.KdlSrc X.prog X.w T r d vs.length (fun i v => ∃ k x, vs[i]? = some (k, x) ∧ (mixKind X.prog X.w).is k v = true) OK) (hok : OK s.heap) (hks : kvs.map (·.1) = ns.map Sum.inl) (z : kvs.length ≤ sizeLine)
    (q : ∀ (ms : List Int) (p : Addr), ms.Perm ns → ms.Pairwise (· ≤ ·) → H p = none → Q (.ref p) (upd H p (.lst (ms.map V.int)))) :
    wpAny (model X.prog X.w) X.A (call (.builtin "sorted") [.ref r]) (EP X pins σ Q) X.xe s := by
  have hkeys : vs.map (·.1) = ns.map Sum.inl := rel.keys.symm.trans hks
  have hl : vs.length = ns.length := by
    have e := congrArg List.length hkeys
    rw [List.length_map, List.length_map] at e
    exact e
  have h16 : vs.length ≤ sizeLine := by rw [← rel.length]; exact z
  refine Calls.call_function_entry PyProof.Rows.kind_sorted PyProof.Rows.plain_sorted PyProof.Rows.entry_sorted (PyProof.Rows.args_sorted1 _) ?_
  unfold Builtin.«sorted»
  refine wpAny_bind (m := checkCount "sorted" 1 1 _) (wpAny_pure ?_)
  refine wpAny_bind (PySem.W.kdu_collect (A := X.A.in1) S (I.ok.hd hcalm) hok h16 fun h' tk acc hk hacc => ?_)
  have hv : Vals (vs.map fun p => kV p.1) acc.toList := keys_at (by rw [Array.length_toList]; exact hacc.1) fun j v e => hacc.2 j v (by rw [← Array.getElem?_toList]; exact e)
  have ek : (vs.map fun p => kV p.1) = ns.map V.int := by
    have e := congrArg (List.map kV) hkeys
    rw [List.map_map, List.map_map] at e
    exact e
  rw [ek] at hv
  have hi := hv.ints
  have hal : acc.toList.length = ns.length := by rw [Array.length_toList, hacc.1, hl]
  have hz : acc.toList.length ≤ sizeLine := by rw [hal, ← hl]; exact h16
  have I1 : Inv X pins σ H { s with heap := h', toks := tk } := I.kept hk
  refine wpAny_bind (wpAny_newList ?_ hz)
  have hoL : (h'.push (seqObj "list" acc.toList.toArray 0)).get? h'.objs.size = some (seqObj "list" acc.toList.toArray 0) := Heap.get?_push_size _ rfl
  show wpAny _ _ _ _ _ { s with heap := h'.push (seqObj "list" acc.toList.toArray 0), toks := tk }
  refine wpAny_bind (wpAny_holding (wpAny_call_entry PyProof.Rows.slot_list_sort ⟨_, hoL, rfl⟩ PyProof.Rows.entry_list_sort
    (SrtO.list_sort_ord SrtO.swo_int (s := { s with heap := h'.push (seqObj "list" acc.toList.toArray 0), toks := tk }) hoL hz (fun h2 => SrtO.ints_sortable hi h2) fun out h1 h2 => ⟨_, rfl, ?_⟩)
    (PyProof.Rows.args_list_sort _)))
  obtain ⟨k1, k2, k3⟩ := SrtO.ints_out hi h1 h2
  obtain ⟨e', he'⟩ := PyProof.Rows.sortedHeap_at (vs := acc.toList) (out := out.toArray) hoL
  have hlen : ((out.map SrtO.iv).map V.int).length ≤ sizeLine := by
    rw [List.length_map, k2.length_eq, ← hl]
    exact h16
  refine wpAny_pure ⟨_, rfl, .ref h'.objs.size, upd H h'.objs.size (.lst ((out.map SrtO.iv).map V.int)), I1.laid (t' := tk) (fun b u e => ?_) (Nat.le_refl _)
    (show ObjOk X.prog X.w _ _ _ (.lst ((out.map SrtO.iv).map V.int)) from ⟨hlen, out, e', vals_of_ints k1, he'⟩), rfl, q _ _ k2 k3 (I1.hok.fresh (Nat.le_refl _))⟩
  have hb : b < h'.objs.size := Heap.lt_size e
  rw [PyProof.Rows.sortedHeap_old (Nat.ne_of_lt hb) (by rw [size_push']; exact Nat.lt_succ_of_lt hb)]
  exact Heap.get?_push_of_some _ e
section
variable {X : Cx} {e : Expr} {te : TE} {p apos cpos pos : Pos}
theorem pe_sortKeys (hc : X.calm = true) (he : PE X e te) (hg : Gl X "sorted") (hm : X.mg "sorted" = none) (hv : bootBuiltins "sorted" = some (.builtin "sorted")) (hbase : attributeBase e "keys" X.env (eval e X.env) = eval e X.env := by rfl) (hline : (apos.endLine == cpos.line) = true := by rfl)
    (hs : starEach [.Call (.Attribute e "keys" apos) [] [] cpos] X.env = (false, eval (.Call (.Attribute e "keys" apos) [] [] cpos) X.env) :: starEach [] X.env := by rfl) :
    PE X (.Call (.Name "sorted" p) [.Call (.Attribute e "keys" apos) [] [] cpos] [] pos) (tSortKeys te) := by
  refine ⟨fun pins s σ H Q I hq => ?_⟩
  refine wpAny_Call_Name_kw (ld_blt I hg hm hv ?_)
  refine PyProof.Rows.callWith_builtin1 ?_ hs rfl
  rw [hs]
  show wpAny _ _ (spliced ((false, eval (.Call (.Attribute e "keys" apos) [] [] cpos) X.env) :: backTo pos (starEach [] X.env))) _ _ s
  refine Calls.spliced_cons ?_
  refine wpAny_Call_method (T := "dict") (id := "dict.keys") hbase rfl hline F.plainAttrs_dict F.slot_dict_keys F.type_dict_keys (thn (he.run pins s σ H _ I hq) fun u s1 ⟨x, H1, I1, rx, d, kvs, ns, ex, hd, hks, q⟩ => ?_)
  obtain rfl : x = .ref d := by simpa using ex
  obtain rfl : u = Value.ref d := rx
  obtain ⟨hz, hs0, vs, kv, hdo⟩ := dk_rd I1.hok hd
  obtain ⟨ep, hat⟩ := hdo.dictAt
  have I2 : Inv X pins σ H1 { s1 with heap := s1.heap.push { cls := .type "dict_keys", data := .fields #[.ref d] } } := I1.kept (t' := s1.toks) fun b ob q => Heap.get?_push_of_some _ q
  refine ⟨hdo.typeIs, hdo.mapOf.noDict, ?_⟩
  show wpAny _ _ (callWith cpos (.builtin "dict.keys") [.ref d] [] []) _ X.xe s1
  refine method_meetsIn F.slot_dict_keys F.entry_dict_keys rfl (PySem.evalArgs_none ⟨rfl, hdo.typeIs, F.args_dict_keys_1 _, _, PySem.W.kdl_meets_keys (mixKind X.prog X.w) d hs0, ⟨vs, hdo⟩, ?_⟩)
  refine Calls.spliced_nil ?_
  exact sort_keysOf hc I2 kv PySem.W.kdl_keys ⟨⟨_, Heap.get?_push_size _ rfl, rfl, rfl⟩, hat.push _⟩ hks hz q
end
section
variable {σ : L2.St} {H : Hp} {Q : VK} {te : TE}
theorem g_sortKeys (h : te σ H fun x H1 => rSortDI [x] H1 Q) : tSortKeys te σ H Q := h
end
end Z

set_option maxHeartbeats 4000000
/-! Z27: the values of a dict; setdefault and whole expressions with one way on; the last of a list. -/
namespace Z
open PySem PySem.Spec PyProof.Rows L2 LiI
section
variable {K : PySem.W.Frag} {B H H1 : Hp} {L : List Cell} {D d a : Addr} {Q : VK} {g : TG} {tt : TT} {te t : TE} {vs : List Nat} {σ : L2.St} {acc : List V} {kvs : List (Key × V)} {o : Obj} {u : HO} {R : It → Hp → Prop} {td : TE} {n : Int} {z : V}
def rVals (R : It → Hp → Prop) (x : V) (H1 : Hp) : Prop := ∃ d o kvs, x = .ref d ∧ H1 d = some (.frz o (.dK kvs)) ∧ R (Itd d o kvs) H1
theorem g_vals (h : td σ H (rVals R)) : iVals td σ H R := h
theorem r_vals (h : H d = some (.frz o (.dK kvs))) (q : R (Itd d o kvs) H) : rVals R (.ref d) H := ⟨d, o, kvs, rfl, h, q⟩
theorem LC.vals (w : W B L H1) (hd : ∀ B' acc H, Same B B' → W B' ((D, .lst acc) :: L) H → H d = some (.frz o (.dK kvs))) (hD : H1 D = none) (hlen : kvs.length < sizeLine) (Pv : Nat → Hp → List V → Prop) (h0 : Pv 0 B [])
    (hs : ∀ (i : Nat) (k : Key) (v : V) B' acc H (Nx : Hp → Prop), kvs[i]? = some (k, v) → Same B B' → W B' ((D, .lst acc) :: L) H → Pv i B' acc → acc.length ≤ i → acc.length < sizeLine →
      (∀ B'' acc' H', Same B' B'' → W B'' ((D, .lst acc') :: L) H' → Pv (i + 1) B'' acc' → acc'.length ≤ i + 1 → Nx H') →
      g v (wipe σ vs) H fun σ2 H2 => wipe σ2 vs = wipe σ vs ∧ tt σ2 H2 fun b H3 => Br b (te σ2 H3 (rAcc D Nx)) (Nx H3))
    (he : ∀ B' B'' acc H, Same B B'' → Same' B' B'' → B'' D = some (.lst acc) → W B'' L H → Pv kvs.length B' acc → acc.length ≤ kvs.length → Q (.ref D) H) : LC (Itd d o kvs) D g tt te vs σ H1 Q := by
  refine lc_it (walk_values (d := d) (o := o) (kvs := kvs)) (fun i H => ∃ B' acc, Same B B' ∧ W B' ((D, .lst acc) :: L) H ∧ Pv i B' acc ∧ acc.length ≤ i) ⟨B, [], same_refl B, w.newL hD _, h0, Nat.le_refl _⟩
    (fun i H _ ⟨B', acc, s, w', _⟩ => hd B' acc H s w') ?_ (fun H ⟨B', acc, s, w', p, l⟩ => he B' _ acc H (same_trans s (same_new (w'.out _ (List.mem_cons_self ..)))) (same_new (w'.out _ (List.mem_cons_self ..))) upd_same w'.give p l)
  rintro i x H H' hi ⟨B', acc, s, w', p, l⟩ ⟨rfl, k, hk⟩
  exact hs i k x B' acc H' _ hk s w' p l (by omega) fun B'' acc' H' s' w'' p' l' => ⟨B'', acc', same_trans s s', w'', p', l'⟩
theorem r_dsetdJ (P : V → Hp → Prop) (hd : H a = some (.dK kvs)) (hl : kvs.length < sizeLine) (h1 : ∀ v, valV kvs (Sum.inl n) = some v → P v H) (h2 : valV kvs (Sum.inl n) = none → P z (upd H a (.dK (putK kvs (Sum.inl n) z)))) (q : ∀ v H', P v H' → Q v H') : rDSetd Q a (.int n) z H :=
  r_dsetd hd hl (fun v e => q _ _ (h1 v e)) fun e => q _ _ (h2 e)
theorem g_cut (P : V → Hp → Prop) (h : ∀ N : VK, (∀ v H', P v H' → N v H') → te σ H N) (q : ∀ v H', P v H' → Q v H') : te σ H Q := h Q q
theorem atI_lastV {xs : List V} {v : V} (h : xs.getLast? = some v) : atI xs (-1) = some v := by
  have h0 : 0 < xs.length := List.length_pos_iff.mpr (fun e => by rw [e] at h; cases h)
  have e : ixN xs.length (-1) = some (xs.length - 1) := by
    unfold ixN
    rw [if_neg (by omega)]
    first
      | (rw [if_pos (by omega)]; congr 1; omega)
      | (simp; omega)
  unfold atI
  rw [e, Option.bind_some, ← List.getLast?_eq_getElem?, h]
theorem r_neDv {x y : V} {d e : PyData} {b : Bool} (h1 : Dp K H x d) (h2 : Dp K H y e) (sh1 : SeqAt.shaped d = true) (sh2 : SeqAt.shaped e = true) (hb : PyData.eqv d e = b) (q : Q (.bl (!b)) H) : rNeD K x y H Q := ⟨d, e, h1, h2, sh1, sh2, by rw [hb]; exact q⟩
theorem r_eqDv {x y : V} {d e : PyData} {b : Bool} (h1 : Dp K H x d) (h2 : Dp K H y e) (sh1 : SeqAt.shaped d = true) (sh2 : SeqAt.shaped e = true) (hb : PyData.eqv d e = b) (q : Q (.bl b) H) : rEqD K x y H Q := ⟨d, e, h1, h2, sh1, sh2, by rw [hb]; exact q⟩
theorem isi_nb (q : Q (.bl false) H) : rIsi K [.non, .ty "bool"] H Q := r_isi (.base .non) kb_non_bool q
end
/-! ### lots, in plain Lean -/
def totI (ls : List Lt) : Int := (ls.map fun e => ((e.2.2.length : Nat) : Int)).sum
theorem dkM_at {ls : List Lt} {j : Nat} {k : Key} {v : V} (h : (dkM ls)[j]? = some (k, v)) : ∃ e : Lt, ls[j]? = some e ∧ k = Sum.inl e.1 ∧ v = .ref e.2.1 := by
  unfold dkM at h
  rw [List.getElem?_map] at h
  cases e : ls[j]? with
  | none => rw [e] at h; cases h
  | some x => rw [e] at h; cases h; exact ⟨x, rfl, rfl, rfl⟩
theorem tk_succ {α : Type} {xs : List α} {i : Nat} {x : α} (h : xs[i]? = some x) : xs.take (i + 1) = xs.take i ++ [x] := by
  rw [List.take_add_one, h]
  rfl
theorem tk_filter {α : Type} {P : α → Bool} {xs : List α} {i : Nat} {x : α} (h : xs[i]? = some x) : (xs.take (i + 1)).filter P = (xs.take i).filter P ++ if P x = true then [x] else [] := by
  rw [tk_succ h, List.filter_append, List.filter_cons, List.filter_nil]
theorem totI_app (xs ys : List Lt) : totI (xs ++ ys) = totI xs + totI ys := by unfold totI; rw [List.map_append, List.sum_append]
theorem totI_cons (x : Lt) (xs : List Lt) : totI (x :: xs) = x.2.2.length + totI xs := by unfold totI; rw [List.map_cons, List.sum_cons]
theorem totI_set {ls : List Lt} {i : Nat} {k : Int} {p : Addr} {ts us : List Mt} (h : ls[i]? = some (k, p, ts)) : totI (ls.set i (k, p, us)) = totI ls + us.length - ts.length := by
  obtain ⟨e1, e2⟩ := set_mid2 h (k, p, us)
  have h1 : totI ls = totI (ls.take i) + (ts.length + totI (ls.drop (i + 1))) := by
    have := congrArg totI e1
    rw [totI_app, totI_cons] at this
    exact this
  rw [e2, totI_app, totI_cons, h1]
  show _ + ((us.length : Int) + _) = _
  omega
theorem new_at {ls : List Lt} {k : Int} (p : Addr) (h : k ∉ ksM ls) : (ls ++ [(k, p, ([] : List Mt))])[ls.length]? = some (k, p, []) ∧ (ls ++ [(k, p, ([] : List Mt))]).find? (fun e => decide (e.1 = k)) = some (k, p, []) ∧ ∀ j : Nat, j < ls.length → ∀ e, (ls ++ [(k, p, ([] : List Mt))])[j]? = some e → e.1 ≠ k := by
  refine ⟨by rw [List.getElem?_append_right (Nat.le_refl _)]; simp, ?_, fun j hj e he => ?_⟩
  · rw [List.find?_append, find_not h]
    simp
  · rw [List.getElem?_append_left hj] at he
    exact fun e2 => h (List.mem_map.mpr ⟨e, List.mem_of_getElem? he, e2⟩)
theorem mkL_new0 {ls : List Lt} {k : Int} (p : Addr) (h : k ∉ ksM ls) (k' : Int) : mkL (ls ++ [(k, p, ([] : List Mt))]) k' = mkL ls k' := by
  rw [mkL_new h]
  split
  · rename_i c
    rw [c, mkL_not h]
  · rfl
theorem ksM_new {ls : List Lt} {k : Int} (p : Addr) (ts : List Mt) : ksM (ls ++ [(k, p, ts)]) = ksM ls ++ [k] := by unfold ksM; rw [List.map_append]; rfl
end Z

set_option maxHeartbeats 4000000
/-! Z28: min(xs, default=x), xs a list of whole numbers. -/
namespace Z
open PySem PySem.Spec PyProof.Rows L2 LiI
section
variable {prog : Program} {w : World} {A : Around} {R : Result → Shared → Prop} {I : Addr} {fp wr : List Addr} {n : Nat} {P : Nat → Value → Prop} {St : Nat → Heap → Prop} {kw : List (Str × Value)}
theorem minK_loop (W : Walks prog w A.in1 I fp wr n P St) (bt : Nat → Nat → Bool) (hcmp : CmpOf prog w A.in1 .Lt P bt) (S : Addr) (hSf : S ∉ fp) :
    ∀ (k j : Nat) (s : Shared) (vb : Value) (c : Nat), n - (j + 1) = k → j + 1 ≤ n → St (j + 1) s.heap → P (argBest bt j) vb →
    s.heap.get? S = some { cls := .type "list", dict := none, data := .seq #[vb, vb] c, slots := #[] } →
    (∀ v h' tk, P (argBest bt (n - 1)) v → (∀ b o, b ∉ wr → b ≠ S → s.heap.get? b = some o → h'.get? b = some o) → R (.ok (.ret v)) { s with heap := h', toks := tk }) →
    codeAny (model prog w) A (.builtin "min.loop" ⟨[.ref I, .none, .ref S], kw⟩) R s := by
  have hSw : S ∉ wr := fun h => hSf (W.sub _ h)
  have hname : (toString "min" ++ toString ".loop" : String) = "min.loop" := by decide
  intro k
  induction k with
  | zero =>
    intro j s vb c hk hj hst hPb hS hR
    have hin : j + 1 = n := by omega
    refine codeAny_builtin F.entry_min_loop ?_
    rw [Around.under_plainId F.plain_min_loop _]
    show wpAny _ A.in1 (seqItems? (.ref S) >>= _) _ _ s
    refine wpAny_bind (wpAny_seqItems hS rfl ?_)
    show wpAny _ A.in1 (tryCatch (pyNext (.ref I)) _ >>= _) _ _ s
    refine wpAny_bind (wpAny_tryCatch (W.done s _ _ (hin ▸ hst) fun h' tk hk' => ?_))
    have hS' := hk' S _ hSw hS
    show wpAny _ A.in1 (updateSeq S (fun _ => #[]) >>= _) _ _ _
    refine wpAny_bind ?_
    refine wpAny_updateSeq hS' rfl (wpAny_bind (wpAny_letGo (wpAny_pure ?_)))
    refine hR vb _ tk (by rw [← hin]; exact hPb) fun b o hbw hbS e => (Heap.get?_update_other _ _ (Ne.symm hbS)).trans (hk' b o hbw e)
  | succ k ih =>
    intro j s vb c hk hj hst hPb hS hR
    have hlt : j + 1 < n := by omega
    refine codeAny_builtin F.entry_min_loop ?_
    rw [Around.under_plainId F.plain_min_loop _]
    show wpAny _ A.in1 (seqItems? (.ref S) >>= _) _ _ s
    refine wpAny_bind (wpAny_seqItems hS rfl ?_)
    show wpAny _ A.in1 (tryCatch (pyNext (.ref I)) _ >>= _) _ _ s
    refine wpAny_bind (wpAny_tryCatch (W.item (j + 1) s _ _ hlt hst fun v h' tk hP hst' hk' => ?_))
    have hS' := hk' S _ hSw hS
    show wpAny _ A.in1 (tryCatch (holding [v, v] (richCompare .Lt v vb >>= _)) _ >>= _) _ _ _
    refine wpAny_bind (wpAny_tryCatch (wpAny_holding (wpAny_bind (hcmp (j + 1) (argBest bt j) v vb _ _ _ hP hPb ?_))))
    refine wpAny_bind (wpAny_holding (wpAny_truthy_bool ?_))
    refine wpAny_bind (wpAny_letGo (wpAny_pure ?_))
    cases hb : bt (j + 1) (argBest bt j) with
    | true =>
      simp only [if_true]
      refine wpAny_bind ?_
      refine wpAny_updateSeq hS' rfl (wpAny_bind (wpAny_letGo ?_))
      rw [hname]
      refine wpAny_pure ⟨plainId_quiet F.plain_min_loop _, ih (j + 1) _ v _ (by omega) hlt (W.frame _ _ _ hst' fun b hbf o e => ?_) (by simp only [argBest, hb, if_true]; exact hP) (Heap.get?_update_self _ hS' rfl)
        fun v' h'' tk'' hP' hk'' => ?_⟩
      · exact (Heap.get?_update_other _ _ (fun h : S = b => hSf (by rw [h]; exact hbf))).trans e
      · exact hR v' h'' tk'' hP' fun b o hbw hbS e => hk'' b o hbw hbS ((Heap.get?_update_other _ _ (Ne.symm hbS)).trans (hk' b o hbw e))
    | false =>
      simp only [Bool.false_eq_true, if_false]
      refine wpAny_bind (wpAny_letGo ?_)
      rw [hname]
      refine wpAny_pure ⟨plainId_quiet F.plain_min_loop _, ih (j + 1) _ vb c (by omega) hlt hst' (by simp only [argBest, hb, Bool.false_eq_true, if_false]; exact hPb) hS' fun v' h'' tk'' hP' hk'' => ?_⟩
      exact hR v' h'' tk'' hP' fun b o hbw hbS e => hk'' b o hbw hbS (hk' b o hbw e)
theorem minK_first (W : Walks prog w A.in1 I fp wr n P St) (bt : Nat → Nat → Bool) (hcmp : CmpOf prog w A.in1 .Lt P bt) (S : Addr) (hSf : S ∉ fp) (hn : 0 < n) {s : Shared} {c : Nat} (hst : St 0 s.heap)
    (hS : s.heap.get? S = some { cls := .type "list", dict := none, data := .seq #[] c, slots := #[] })
    (hR : ∀ v h' tk, P (argBest bt (n - 1)) v → (∀ b o, b ∉ wr → b ≠ S → s.heap.get? b = some o → h'.get? b = some o) → R (.ok (.ret v)) { s with heap := h', toks := tk }) :
    codeAny (model prog w) A (.builtin "min.loop" ⟨[.ref I, .none, .ref S], kw⟩) R s := by
  have hSw : S ∉ wr := fun h => hSf (W.sub _ h)
  have hname : (toString "min" ++ toString ".loop" : String) = "min.loop" := by decide
  refine codeAny_builtin F.entry_min_loop ?_
  rw [Around.under_plainId F.plain_min_loop _]
  show wpAny _ A.in1 (seqItems? (.ref S) >>= _) _ _ s
  refine wpAny_bind (wpAny_seqItems hS rfl ?_)
  show wpAny _ A.in1 (tryCatch (pyNext (.ref I)) _ >>= _) _ _ s
  refine wpAny_bind (wpAny_tryCatch (W.item 0 s _ _ hn hst fun v h' tk hP hst' hk' => ?_))
  have hS' := hk' S _ hSw hS
  show wpAny _ A.in1 (updateSeq S (fun _ => #[v, v]) >>= _) _ _ _
  refine wpAny_bind ?_
  refine wpAny_updateSeq hS' rfl ?_
  rw [hname]
  refine wpAny_pure ⟨plainId_quiet F.plain_min_loop _, minK_loop W bt hcmp S hSf _ 0 _ v _ rfl hn (W.frame _ _ _ hst' fun b hbf o e => ?_) hP (Heap.get?_update_self _ hS' rfl) fun v' h'' tk'' hP' hk'' => ?_⟩
  · exact (Heap.get?_update_other _ _ (fun h : S = b => hSf (by rw [h]; exact hbf))).trans e
  · exact hR v' h'' tk'' hP' fun b o hbw hbS e => hk'' b o hbw hbS ((Heap.get?_update_other _ _ (Ne.symm hbS)).trans (hk' b o hbw e))
theorem minK_none (W : Walks prog w A.in1 I fp wr 0 P St) (S : Addr) (hSf : S ∉ fp) {x : Str} {d : Value} {s : Shared} {c : Nat} (hst : St 0 s.heap)
    (hS : s.heap.get? S = some { cls := .type "list", dict := none, data := .seq #[] c, slots := #[] })
    (hR : ∀ h' tk, (∀ b o, b ∉ wr → b ≠ S → s.heap.get? b = some o → h'.get? b = some o) → R (.ok (.ret d)) { s with heap := h', toks := tk }) :
    codeAny (model prog w) A (.builtin "min.loop" ⟨[.ref I, .none, .ref S], [(x, d)]⟩) R s := by
  have hSw : S ∉ wr := fun h => hSf (W.sub _ h)
  refine codeAny_builtin F.entry_min_loop ?_
  rw [Around.under_plainId F.plain_min_loop _]
  show wpAny _ A.in1 (seqItems? (.ref S) >>= _) _ _ s
  refine wpAny_bind (wpAny_seqItems hS rfl ?_)
  show wpAny _ A.in1 (tryCatch (pyNext (.ref I)) _ >>= _) _ _ s
  refine wpAny_bind (wpAny_tryCatch (W.done s _ _ hst fun h' tk hk' => ?_))
  show wpAny _ A.in1 (rule _ >>= _) _ _ _
  refine wpAny_bind (wpAny_rule (wpAny_pure ?_))
  exact hR h' tk fun b o hbw _ e => hk' b o hbw e
end
section
variable {prog : Program} {w : World} {A : Around} {E : Value → Shared → Prop} {s : Shared}
theorem args_minD (a d : Value) : argsOk "min" ⟨[a], [(Str.ofString "default", d)]⟩ := by unfold argsOk; kernel_rfl
theorem bind_minD (d : Value) : Builtin.Builtins.bindParams "min" ["key", "default"] 0 ⟨[], [(Str.ofString "default", d)]⟩ = pure [none, some d] := by
  first | rfl | kernel_rfl
theorem call_function_treeK {id : String} {b : Builtin} {args : List Value} {kw : List (Str × Value)} {Q : Value → Shared → Prop} (hk : builtinKind id = none) (hp : plainId id = true)
    (hb : entryFor table id = some b) (ha : argsOk id ⟨args, kw⟩)
    (hc : wpAny (model prog w) A.in1 (b ⟨args, kw⟩) (fun fin s' => match fin with
      | .done f => (match (Except.ok f : Result) with | .ok (.ret v) => Q v s' | .ok _ => False | .error e => E e s')
      | .again c' => c'.quiet = true ∧ codeAny (model prog w) A c' (fun r s' => match r with | .ok (.ret v) => Q v s' | .ok _ => False | .error e => E e s') s') E s) :
    wpAny (model prog w) A (call (.builtin id) args kw) Q E s := by
  refine wpAny_call (codeAny_call_builtin hp hb ?_)
  simp only [checkBuiltinCall, hk]
  cases hsig : Manifest.signature? id with
  | none => exact wpAny_pure hc
  | some sig =>
    simp only [argsOk, hsig] at ha
    have h2 : Bind.checkArgs id sig ⟨args, kw⟩ = pure () := ha
    show wpAny _ A.in1 (Bind.checkArgs id sig ⟨args, kw⟩) _ _ s
    rw [h2]; exact wpAny_pure hc
theorem call_minD_walk {x d : Value} {Q : Value → Shared → Prop}
    (h : wpAny (model prog w) A.in1 (pyIter x) (fun it s₂ => ∃ I fp wr n P St bt, it = .ref I ∧ Walks prog w A.in1 I fp wr n P St ∧ St 0 s₂.heap ∧ (∀ b ∈ fp, b < s₂.heap.objs.size) ∧ CmpOf prog w A.in1 .Lt P bt ∧
      (0 < n → ∀ v h' tk, P (argBest bt (n - 1)) v → (∀ b o, b ∉ wr → s₂.heap.get? b = some o → h'.get? b = some o) → Q v { s₂ with heap := h', toks := tk }) ∧
      (n = 0 → ∀ h' tk, (∀ b o, b ∉ wr → s₂.heap.get? b = some o → h'.get? b = some o) → Q d { s₂ with heap := h', toks := tk })) E s) :
    wpAny (model prog w) A (call (.builtin "min") [x] [(Str.ofString "default", d)]) Q E s := by
  have hname : (toString "min" ++ toString ".loop" : String) = "min.loop" := by decide
  refine call_function_treeK F.kind_min F.plain_min F.entry_min (args_minD _ _) ?_
  show wpAny _ A.in1 (Builtin.Builtins.bindParams "min" ["key", "default"] 0 ⟨[], [(Str.ofString "default", d)]⟩ >>= _) _ _ s
  refine wpAny_bind (wpAny_of_eq (bind_minD d) ?_)
  refine wpAny_bind (wpAny_pure ?_)
  refine wpAny_bind (wpAny_mono h (fun it s₂ h₂ => ?_) fun _ _ e => e)
  obtain ⟨I, fp, wr, n, P, St, bt, rfl, W, hst, hfp, hcmp, hQ, hQ0⟩ := h₂
  refine wpAny_bind (wpAny_newObj_type ?_)
  have hSf : s₂.heap.objs.size ∉ fp := fun hm => Nat.lt_irrefl _ (hfp _ hm)
  rw [hname]
  by_cases hn : 0 < n
  · refine wpAny_pure ⟨plainId_quiet F.plain_min_loop _, minK_first W bt hcmp s₂.heap.objs.size hSf hn (W.frame _ _ _ hst fun b _ o e => Heap.get?_push_of_some _ e) (Heap.get?_push_size _ rfl) fun v h' tk hP hk => ?_⟩
    exact hQ hn v h' tk hP fun b o hbw e => hk b o hbw (Nat.ne_of_lt (Heap.lt_size e)) (Heap.get?_push_of_some _ e)
  · obtain rfl : n = 0 := by omega
    refine wpAny_pure ⟨plainId_quiet F.plain_min_loop _, minK_none W s₂.heap.objs.size hSf (W.frame _ _ _ hst fun b _ o e => Heap.get?_push_of_some _ e) (Heap.get?_push_size _ rfl) fun h' tk hk => ?_⟩
    exact hQ0 rfl h' tk fun b o hbw e => hk b o hbw (Nat.ne_of_lt (Heap.lt_size e)) (Heap.get?_push_of_some _ e)
theorem minD_intList {l : Addr} {xs : Array (Int × Tok)} {d : Value} {Q : Value → Shared → Prop} (hh : A.handled = none) (hl : s.heap.IsList l (intItems xs))
    (h : 0 < xs.size → ∀ v h' tk, (intItems xs)[argBest (fun i j => decide (numAt xs i < numAt xs j)) (xs.size - 1)]? = some v → (∀ b o, s.heap.get? b = some o → h'.get? b = some o) → Q v { s with heap := h', toks := tk })
    (h0 : xs.size = 0 → ∀ h' tk, (∀ b o, s.heap.get? b = some o → h'.get? b = some o) → Q d { s with heap := h', toks := tk }) :
    wpAny (model prog w) A (call (.builtin "min") [.ref l] [(Str.ofString "default", d)]) Q E s := by
  refine call_minD_walk (iter_intList hl fun s₂ e st hfp hlI => ?_)
  subst e
  refine ⟨_, _, _, _, _, _, _, rfl, Walks.list (A := A.in1) hh _ l hlI (intItems xs), st, hfp, CmpOf.ints_lt (numAt xs) (fun _ _ => intItems_at), fun hn v h' tk hP hk => ?_, fun hn h' tk hk => ?_⟩
  · exact h (by simpa [intItems] using hn) v h' tk (by simpa [intItems] using hP) (old_kept hk)
  · exact h0 (by simpa [intItems] using hn) h' tk (old_kept hk)
theorem minD_raw {l : Addr} {its : List Value} {ns : List Int} {d : Value} {Q : Value → Shared → Prop} (hh : A.handled = none) (hl : s.heap.IsList l its.toArray) (hi : IntsAre its ns)
    (h : ∀ h' tk M t', (∀ b o, s.heap.get? b = some o → h'.get? b = some o) → M ∈ ns → (∀ a, a ∈ ns → M ≤ a) → Q (.int M t') { s with heap := h', toks := tk })
    (h0 : ns = [] → ∀ h' tk, (∀ b o, s.heap.get? b = some o → h'.get? b = some o) → Q d { s with heap := h', toks := tk }) :
    wpAny (model prog w) A (call (.builtin "min") [.ref l] [(Str.ofString "default", d)]) Q E s := by
  obtain ⟨xs, e⟩ := hi.allInts.items
  have hn : numsOf (intItems xs).toList = ns := by rw [← e]; exact hi.numsOf
  rw [nums_intItems] at hn
  subst hn
  rw [e] at hl
  refine minD_intList hh hl (fun hsz v h' tk hv hk => ?_) fun hsz h' tk hk => h0 (by simpa using hsz) h' tk hk
  obtain ⟨t, rfl⟩ := intItems_at hv
  obtain ⟨h1, h2⟩ := argBest_lt (numAt xs) (xs.size - 1)
  refine h h' tk _ t hk ?_ fun a ha => ?_
  · rw [numAt_eq]; exact PySem.getD_mem (by rw [List.length_map, Array.length_toList]; omega)
  · obtain ⟨j, hj, rfl⟩ := mem_getD ha
    rw [List.length_map, Array.length_toList] at hj
    rw [← numAt_eq]; exact h2 j (by omega)
end
def rMinD (K : PySem.W.Frag) : List V → List V → Hp → VK → Prop := fun vs zs H Q => ∃ (a : Addr) (ns : List Int) (z : V), vs = [.ref a] ∧ zs = [z] ∧ SqL K H a (ns.map V.int) ∧ (ns = [] → Q z H) ∧ ∀ m, m ∈ ns → (∀ y, y ∈ ns → m ≤ y) → Q (.int m) H
theorem cr_minD {X : Cx} (hc : X.calm = true) : CallRK X (.builtin "min") [Str.ofString "default"] (rMinD X.K) := by
  intro pins s σ H vs zs us ws Q I r rz h
  obtain ⟨a, ns, z, rfl, rfl, hs, q0, q⟩ := h
  obtain rfl := Vals.ref1 r
  obtain ⟨w1, rfl, e1⟩ := vals1 rz
  obtain ⟨its, rv, hl, hz⟩ := I.list hs
  exact minD_raw (I.ok.hd hc) hl.isList rv.ints (fun h' tk m t' hk h1 h2 => ⟨.int _, H, I.kept hk, ⟨_, rfl⟩, q m h1 h2⟩) fun hn h' tk hk => ⟨_, H, I.kept hk, e1, q0 hn⟩
section
variable {K : PySem.W.Frag} {H : Hp} {Q : VK} {a : Addr} {ns : List Int} {z : V}
theorem r_minD (h : SqL K H a (ns.map V.int)) (q0 : ns = [] → Q z H) (q : ∀ m, m ∈ ns → (∀ y, y ∈ ns → m ≤ y) → Q (.int m) H) : rMinD K [.ref a] [z] H Q := ⟨a, ns, z, rfl, rfl, h, q0, q⟩
theorem r_minDJ {fl n : Int} (h : SqL K H a (ns.map V.int)) (q0 : ns = [] → fl = n) (q1 : ∀ m, m ∈ ns → (∀ y, y ∈ ns → m ≤ y) → fl = m) (q : Q (.int fl) H) : rMinD K [.ref a] [.int n] H Q :=
  r_minD h (fun e => q0 e ▸ q) fun m h1 h2 => q1 m h1 h2 ▸ q
end
end Z

set_option maxHeartbeats 4000000
/-! Mmk2: what a moment needs of the makes; lots put anew, taken out. -/
namespace Z
open PySem PySem.Spec PyProof.Rows L2 LiI
section
variable {B H : Hp} {L : List Cell} {Q : VK} {xs ys : List V}
theorem o_cat {a b : Addr} (w : W B L H) (h1 : H a = some (.lst xs)) (h2 : H b = some (.lst ys)) (hl : xs.length + ys.length ≤ sizeLine) (q : ∀ p H', H p = none → W B ((p, .lst (xs ++ ys)) :: L) H' → Q (.ref p) H') : rCat (.ref a) (.ref b) H Q :=
  ⟨a, b, xs, ys, rfl, rfl, h1, h2, hl, fun p hp => q p _ hp (w.newL hp _)⟩
end
/-! of one key -/
def neA (fl : Int) (ts : List Mt) : List Mt := ts.filter fun t => decide (t.2.1 ≤ fl)
def neB (fl : Int) (ts : List Mt) : List Mt := ts.filter fun t => decide (fl < t.2.1)
def neT (fl : Int) (ts : List Mt) : List Mt := match (neA fl ts).getLast? with
  | some (p, m, some v) => (p, m, some v) :: neB fl ts
  | _ => neB fl ts
def neM (fl : Int) (ms : List Mk) : List Mk := match (ms.filter fun m => decide (m.1 ≤ fl)).getLast? with
  | some (m, some v) => (m, some v) :: ms.filter fun m => decide (fl < m.1)
  | _ => ms.filter fun m => decide (fl < m.1)
theorem neA_map (fl : Int) (ts : List Mt) : (neA fl ts).map (·.2) = (ts.map (·.2)).filter fun m => decide (m.1 ≤ fl) := by unfold neA; rw [List.filter_map]; rfl
theorem neB_map (fl : Int) (ts : List Mt) : (neB fl ts).map (·.2) = (ts.map (·.2)).filter fun m => decide (fl < m.1) := by unfold neB; rw [List.filter_map]; rfl
theorem neT_map (fl : Int) (ts : List Mt) : (neT fl ts).map (·.2) = neM fl (ts.map (·.2)) := by
  unfold neT neM
  rw [← neA_map, ← neB_map, List.getLast?_map]
  cases e : (neA fl ts).getLast? with
  | none => rfl
  | some t =>
    obtain ⟨p, m, v⟩ := t
    cases v <;> rfl
theorem neAB (fl : Int) (ts : List Mt) : (neA fl ts).length + (neB fl ts).length = ts.length := by
  unfold neA neB
  induction ts with
  | nil => rfl
  | cons t ts ih =>
    rw [List.filter_cons, List.filter_cons]
    by_cases c : t.2.1 ≤ fl
    · rw [if_pos (decide_eq_true c), if_neg (by simp; omega), List.length_cons, List.length_cons]
      omega
    · rw [if_neg (by simp; omega), if_pos (decide_eq_true (by omega)), List.length_cons, List.length_cons]
      omega
theorem neT_len (fl : Int) (ts : List Mt) : (neT fl ts).length ≤ ts.length := by
  have h := neAB fl ts
  unfold neT
  cases e : (neA fl ts).getLast? with
  | none => show (neB fl ts).length ≤ _; omega
  | some t =>
    have h1 : 0 < (neA fl ts).length := List.length_pos_iff.mpr fun e2 => by rw [e2] at e; cases e
    obtain ⟨p, m, v⟩ := t
    cases v with
    | none => show (neB fl ts).length ≤ _; omega
    | some v => show (_ :: neB fl ts).length ≤ _; rw [List.length_cons]; omega
theorem neT_sub {fl : Int} {ts : List Mt} {t : Mt} (h : t ∈ neT fl ts) : t ∈ ts := by
  unfold neT at h
  have hb : t ∈ neB fl ts → t ∈ ts := fun h => (List.mem_filter.mp h).1
  cases e : (neA fl ts).getLast? with
  | none => rw [e] at h; exact hb h
  | some u =>
    rw [e] at h
    obtain ⟨p, m, v⟩ := u
    cases v with
    | none => exact hb h
    | some v =>
      rcases List.mem_cons.mp h with h | h
      · rw [h]
        exact (List.mem_filter.mp (List.mem_of_getLast? e)).1
      · exact hb h
theorem neM_nil (fl : Int) : neM fl [] = [] := rfl
/-! in its place -/
theorem at_perm {α : Type} : ∀ {xs : List α} {i : Nat} {x : α}, xs[i]? = some x → xs.Perm (x :: xs.eraseIdx i)
  | y :: xs, 0, x, h => by cases h; exact List.Perm.refl _
  | y :: xs, i + 1, x, h => by
    rw [List.eraseIdx_cons_succ]
    exact ((at_perm (xs := xs) (i := i) h).cons y).trans (List.Perm.swap _ _ _)
theorem set_perm {α : Type} : ∀ {xs : List α} {i : Nat} {x : α} (y : α), xs[i]? = some x → (xs.set i y).Perm (y :: xs.eraseIdx i)
  | z :: xs, 0, x, y, h => by rw [List.set_cons_zero, List.eraseIdx_cons_zero]
  | z :: xs, i + 1, x, y, h => by
    rw [List.set_cons_succ, List.eraseIdx_cons_succ]
    exact ((set_perm (xs := xs) (i := i) y h).cons z).trans (List.Perm.swap _ _ _)
theorem mkL_of : ∀ {ls : List Lt}, (ksM ls).Nodup → ∀ {e : Lt}, e ∈ ls → mkL ls e.1 = e.2.2
  | x :: ls, nd, e, he => by
    have nd : (x.1 :: ksM ls).Nodup := nd
    obtain ⟨n1, n2⟩ := List.nodup_cons.mp nd
    unfold mkL
    rcases List.mem_cons.mp he with rfl | he
    · rw [List.find?_cons_of_pos (by simp)]
    · have hne : x.1 ≠ e.1 := fun c => n1 (c ▸ List.mem_map.mpr ⟨e, he, rfl⟩)
      rw [List.find?_cons_of_neg (by simp [hne])]
      exact mkL_of n2 he
theorem mkL_perm {ls ls' : List Lt} (nd : (ksM ls).Nodup) (p : ls.Perm ls') (k : Int) : mkL ls k = mkL ls' k := by
  have nd' : (ksM ls').Nodup := (p.map (fun e : Lt => e.1)).nodup_iff.mp nd
  by_cases c : k ∈ ksM ls
  · obtain ⟨e, he, rfl⟩ := List.mem_map.mp c
    rw [mkL_of nd he, mkL_of nd' (p.mem_iff.mp he)]
  · rw [mkL_not c, mkL_not fun h => c ((p.map (fun e : Lt => e.1)).mem_iff.mpr h)]
theorem mkL_cons (x : Lt) (ls : List Lt) (k : Int) : mkL (x :: ls) k = if k = x.1 then x.2.2 else mkL ls k := by
  unfold mkL
  by_cases c : k = x.1
  · rw [if_pos c, List.find?_cons_of_pos (by simp [c])]
  · rw [if_neg c, List.find?_cons_of_neg (by simp; exact fun e => c e.symm)]
section
variable {ls : List Lt} {i : Nat} {k : Int} {p q : Addr} {ts us : List Mt}
theorem ksM_setQ (h : ls[i]? = some (k, p, ts)) : ksM (ls.set i (k, q, us)) = ksM ls := by
  unfold ksM
  rw [List.map_set]
  obtain ⟨hi, e⟩ := List.getElem?_eq_some_iff.mp h
  refine List.ext_getElem? fun j => ?_
  rw [List.getElem?_set]
  by_cases c : i = j
  · subst c
    rw [if_pos rfl, if_pos (by rw [List.length_map]; exact hi), List.getElem?_map, h]
    rfl
  · rw [if_neg c]
theorem er_not (nd : (ksM ls).Nodup) (h : ls[i]? = some (k, p, ts)) : k ∉ ksM (ls.eraseIdx i) := by
  have h1 := ((at_perm h).map (fun e : Lt => e.1)).nodup_iff.mp nd
  exact (List.nodup_cons.mp h1).1
theorem mkL_setQ (nd : (ksM ls).Nodup) (h : ls[i]? = some (k, p, ts)) (k' : Int) : mkL (ls.set i (k, q, us)) k' = if k' = k then us else mkL ls k' := by
  have nd2 : (ksM (ls.set i (k, q, us))).Nodup := by rw [ksM_setQ h]; exact nd
  rw [mkL_perm nd2 (set_perm _ h), mkL_cons, mkL_perm nd (at_perm h), mkL_cons]
  by_cases c : k' = k
  · rw [if_pos c, if_pos c]
  · rw [if_neg c, if_neg c, if_neg c]
theorem mkL_er (nd : (ksM ls).Nodup) (h : ls[i]? = some (k, p, ts)) (k' : Int) : mkL (ls.eraseIdx i) k' = if k' = k then [] else mkL ls k' := by
  rw [mkL_perm nd (at_perm h), mkL_cons]
  by_cases c : k' = k
  · rw [if_pos c, c, mkL_not (er_not nd h)]
  · rw [if_neg c, if_neg c]
theorem dkM_putQ (nd : (ksM ls).Nodup) (h : ls[i]? = some (k, p, ts)) : putK (dkM ls) (Sum.inl k) (.ref q) = dkM (ls.set i (k, q, us)) := by
  have hk : k ∈ ksM ls := List.mem_map.mpr ⟨_, List.mem_of_getElem? h, rfl⟩
  have ha : ((dkM ls).any fun kv => decide (kv.1 = (Sum.inl k : Key))) = true := by
    obtain ⟨u, hu⟩ := (dkM_ks ls).some hk
    rw [valV_any, hu]
    rfl
  unfold putK
  rw [if_pos ha]
  unfold dkM
  rw [List.map_map, List.map_set]
  refine List.ext_getElem? fun j => ?_
  rw [List.getElem?_set, List.getElem?_map, List.getElem?_map]
  by_cases c : i = j
  · subst c
    rw [if_pos rfl, if_pos (by rw [List.length_map]; exact (List.getElem?_eq_some_iff.mp h).1), h]
    simp
  · rw [if_neg c]
    cases e : ls[j]? with
    | none => rfl
    | some x =>
      have hx : x.1 ≠ k := fun e2 => by
        have h1 : (ksM ls)[i]? = some k := by unfold ksM; rw [List.getElem?_map, h]; rfl
        have h2 : (ksM ls)[j]? = some k := by unfold ksM; rw [List.getElem?_map, e, ← e2]; rfl
        exact c ((List.getElem?_inj (List.getElem?_eq_some_iff.mp h1).1 nd).mp (h1.trans h2.symm))
      show some (if (Sum.inl x.1 : Key) = Sum.inl k then _ else _) = _
      rw [if_neg fun e3 => hx (Sum.inl.inj e3)]
      rfl
theorem dkM_er (nd : (ksM ls).Nodup) (h : ls[i]? = some (k, p, ts)) : dropK (dkM ls) (Sum.inl k) = dkM (ls.eraseIdx i) := by
  unfold dropK
  induction ls generalizing i with
  | nil => cases h
  | cons x ls ih =>
    have nd0 : (x.1 :: ksM ls).Nodup := nd
    obtain ⟨n1, n2⟩ := List.nodup_cons.mp nd0
    cases i with
    | zero =>
      cases h
      show List.filter _ ((Sum.inl k, V.ref p) :: dkM ls) = dkM ls
      rw [List.filter_cons_of_neg (by simp)]
      refine List.filter_eq_self.mpr fun kv hkv => decide_eq_true fun e => n1 ?_
      obtain ⟨y, hy, rfl⟩ := List.mem_map.mp hkv
      have e : y.1 = k := Sum.inl.inj e
      exact e ▸ List.mem_map.mpr ⟨y, hy, rfl⟩
    | succ i =>
      have hne : x.1 ≠ k := fun e => n1 (e ▸ List.mem_map.mpr ⟨_, List.mem_of_getElem? h, rfl⟩)
      show List.filter _ ((Sum.inl x.1, V.ref x.2.1) :: dkM ls) = (Sum.inl x.1, V.ref x.2.1) :: dkM (ls.eraseIdx i)
      rw [List.filter_cons_of_pos (p := fun kv : Key × V => decide (kv.1 ≠ Sum.inl k)) (decide_eq_true fun e => hne (Sum.inl.inj e)), ih n2 h]
theorem totI_setQ (h : ls[i]? = some (k, p, ts)) : totI (ls.set i (k, q, us)) = totI ls + us.length - ts.length := by
  obtain ⟨e1, e2⟩ := set_mid2 h (k, q, us)
  have h1 : totI ls = totI (ls.take i) + (ts.length + totI (ls.drop (i + 1))) := by
    have := congrArg totI e1
    rw [totI_app, totI_cons] at this
    exact this
  rw [e2, totI_app, totI_cons, h1]
  show _ + ((us.length : Int) + _) = _
  omega
theorem totI_er (h : ls[i]? = some (k, p, ts)) : totI (ls.eraseIdx i) = totI ls - ts.length := by
  rw [List.eraseIdx_eq_take_drop_succ, totI_app]
  have h1 : totI ls = totI (ls.take i) + (ts.length + totI (ls.drop (i + 1))) := by
    have := congrArg totI (set_mid2 h (k, p, ts)).1
    rw [totI_app, totI_cons] at this
    exact this
  omega
end
/-! all keys -/
/-- a sweep down to fl has been done for the first of the keys -/
structure Swp (fl : Int) (ls : List Lt) (i : Nat) (ls' : List Lt) : Prop where
  ks : ksM ls' = ((ksM ls).take i).filter (fun k => decide (neM fl (mkM ls k) ≠ [])) ++ (ksM ls).drop i
  mk_ : ∀ k, mkM ls' k = if k ∈ (ksM ls).take i then neM fl (mkM ls k) else mkM ls k
theorem Swp.zero (fl : Int) (ls : List Lt) : Swp fl ls 0 ls := ⟨by simp, fun k => by simp⟩
theorem Swp.all {fl : Int} {ls ls' : List Lt} (h : Swp fl ls ls.length ls') : ksM ls' = (ksM ls).filter (fun k => decide (neM fl (mkM ls k) ≠ [])) ∧ mkM ls' = fun k => neM fl (mkM ls k) := by
  have e : ls.length = (ksM ls).length := (List.length_map ..).symm
  refine ⟨by rw [h.ks, e, List.take_length, List.drop_length, List.append_nil], funext fun k => ?_⟩
  rw [h.mk_, e, List.take_length]
  split
  · rfl
  · rename_i c
    unfold mkM
    rw [mkL_not c]
    rfl
theorem Swp.nd {fl : Int} {ls ls' : List Lt} {i : Nat} (h : Swp fl ls i ls') (nd : (ksM ls).Nodup) : (ksM ls').Nodup := by
  rw [h.ks]
  have e : (ksM ls) = (ksM ls).take i ++ (ksM ls).drop i := (List.take_append_drop ..).symm
  rw [e] at nd
  exact nd.sublist ((List.filter_sublist).append_right _)
section
variable {fl : Int} {ls ls' : List Lt} {i j : Nat} {k : Int} {p q : Addr} {ts us : List Mt}
theorem Swp.at_ (h : Swp fl ls i ls') (hk : (ksM ls)[i]? = some k) (nd : (ksM ls).Nodup) : k ∈ ksM ls' ∧ mkM ls' k = mkM ls k := by
  have hil := (List.getElem?_eq_some_iff.mp hk).1
  have hd : (ksM ls).drop i = k :: (ksM ls).drop (i + 1) := by
    rw [List.drop_eq_getElem_cons hil]
    rw [List.getElem?_eq_getElem hil] at hk
    cases hk
    rfl
  refine ⟨by rw [h.ks, hd]; exact List.mem_append_right _ (List.mem_cons_self ..), ?_⟩
  rw [h.mk_, if_neg]
  intro hm
  have e : (ksM ls) = (ksM ls).take i ++ k :: (ksM ls).drop (i + 1) := by rw [← hd, List.take_append_drop]
  rw [e] at nd
  exact (List.nodup_append.mp nd).2.2 k hm k (List.mem_cons_self ..) rfl
/-- one key more; its lot is put anew -/
theorem Swp.step (h : Swp fl ls i ls') (nd : (ksM ls).Nodup) (hk : (ksM ls)[i]? = some k) (hj : ls'[j]? = some (k, p, ts)) (he : us.map (·.2) = neM fl (mkM ls k)) (hu : us ≠ []) : Swp fl ls (i + 1) (ls'.set j (k, q, us)) := by
  have hil := (List.getElem?_eq_some_iff.mp hk).1
  have hd : (ksM ls).drop i = k :: (ksM ls).drop (i + 1) := by
    rw [List.drop_eq_getElem_cons hil]
    rw [List.getElem?_eq_getElem hil] at hk
    cases hk
    rfl
  refine ⟨?_, fun k' => ?_⟩
  · rw [ksM_setQ hj, h.ks, hd, tk_filter hk, if_pos (decide_eq_true ?_)]
    · simp
    · rw [← he]
      exact fun e => hu (List.map_eq_nil_iff.mp e)
  · unfold mkM
    rw [mkL_setQ (h.nd nd) hj, tk_succ hk]
    by_cases c : k' = k
    · rw [if_pos c, if_pos (List.mem_append_right _ (by rw [c]; exact List.mem_singleton.mpr rfl)), c]
      exact he
    · rw [if_neg c]
      have e : k' ∈ (ksM ls).take i ++ [k] ↔ k' ∈ (ksM ls).take i := by simp [c]
      have := h.mk_ k'
      unfold mkM at this
      rw [this]
      by_cases c2 : k' ∈ (ksM ls).take i
      · rw [if_pos c2, if_pos (e.mpr c2)]
      · rw [if_neg c2, if_neg fun h => c2 (e.mp h)]
theorem Swp.step0 (h : Swp fl ls i ls') (nd : (ksM ls).Nodup) (hk : (ksM ls)[i]? = some k) (hj : ls'[j]? = some (k, p, ts)) (he : neM fl (mkM ls k) = []) : Swp fl ls (i + 1) (ls'.eraseIdx j) := by
  have hil := (List.getElem?_eq_some_iff.mp hk).1
  have hd : (ksM ls).drop i = k :: (ksM ls).drop (i + 1) := by
    rw [List.drop_eq_getElem_cons hil]
    rw [List.getElem?_eq_getElem hil] at hk
    cases hk
    rfl
  have hnd := h.nd nd
  refine ⟨?_, fun k' => ?_⟩
  · rw [tk_filter hk, if_neg (by simp [he]), List.append_nil]
    have e1 : ksM (ls'.eraseIdx j) = (ksM ls').filter fun x => decide (x ≠ k) := by
      have h1 := congrArg (List.map (·.1)) (dkM_er hnd hj)
      have h2 : (dropK (dkM ls') (Sum.inl k)).map (·.1) = ((ksM ls').filter fun x => decide (x ≠ k)).map Sum.inl := by
        unfold dropK dkM ksM
        rw [List.filter_map, List.filter_map, List.map_map, List.map_map]
        congr 1
        refine List.filter_congr fun x _ => ?_
        show decide ((Sum.inl x.1 : Key) ≠ Sum.inl k) = decide (x.1 ≠ k)
        rw [decide_eq_decide]
        exact ⟨fun h e => h (by rw [e]), fun h e => h (Sum.inl.inj e)⟩
      rw [h2] at h1
      have h3 : (dkM (ls'.eraseIdx j)).map (·.1) = (ksM (ls'.eraseIdx j)).map Sum.inl := dkM_ks _
      rw [h3] at h1
      exact ((List.map_inj_right fun a b e => Sum.inl.inj e).mp h1).symm
    rw [e1, h.ks, hd]
    rw [h.ks, hd] at hnd
    obtain ⟨n1, n2, n3⟩ := List.nodup_append.mp hnd
    rw [List.filter_append, List.filter_cons_of_neg (by simp)]
    congr 1
    · exact List.filter_eq_self.mpr fun x hx => decide_eq_true (n3 x hx k (List.mem_cons_self ..))
    · exact List.filter_eq_self.mpr fun x hx => decide_eq_true fun e => (List.nodup_cons.mp n2).1 (e ▸ hx)
  · unfold mkM
    rw [mkL_er hnd hj, tk_succ hk]
    by_cases c : k' = k
    · rw [if_pos c, if_pos (List.mem_append_right _ (by rw [c]; exact List.mem_singleton.mpr rfl)), c]
      exact he.symm
    · rw [if_neg c]
      have e : k' ∈ (ksM ls).take i ++ [k] ↔ k' ∈ (ksM ls).take i := by simp [c]
      have := h.mk_ k'
      unfold mkM at this
      rw [this]
      by_cases c2 : k' ∈ (ksM ls).take i
      · rw [if_pos c2, if_pos (e.mpr c2)]
      · rw [if_neg c2, if_neg fun h => c2 (e.mp h)]
end
end Z

set_option maxHeartbeats 4000000
/-! Mmk3: sweeps as a law reads them; how many makes. -/
namespace Z
open PySem PySem.Spec PyProof.Rows L2 LiI
/-! the law's reading of it, row by row -/
def lnS (fl : Int) (acc : List Mk) (m : Mk) : List Mk := (if m.1 ≤ fl then [] else acc) ++ if fl < m.1 ∨ m.2 ≠ none then [m] else []
def lnM (fl : Int) (ms : List Mk) : List Mk := ms.foldl (lnS fl) []
theorem lnM_app (fl : Int) (ms : List Mk) (m : Mk) : lnM fl (ms ++ [m]) = lnS fl (lnM fl ms) m := by unfold lnM; rw [List.foldl_append]; rfl
theorem neM_low {fl : Int} {ms : List Mk} {m : Mk} (hr : ∀ x ∈ ms, x.1 < m.1) (c : m.1 ≤ fl) : neM fl (ms ++ [m]) = if m.2 ≠ none then [m] else [] := by
  unfold neM
  have e1 : (ms ++ [m]).filter (fun m => decide (m.1 ≤ fl)) = ms ++ [m] := List.filter_eq_self.mpr fun x hx => by
    rcases List.mem_append.mp hx with hx | hx
    · have := hr x hx
      exact decide_eq_true (by omega)
    · rw [List.mem_singleton.mp hx]
      exact decide_eq_true c
  have e2 : (ms ++ [m]).filter (fun m => decide (fl < m.1)) = [] := List.filter_eq_nil_iff.mpr fun x hx => by
    have : x.1 ≤ fl := by
      rcases List.mem_append.mp hx with hx | hx
      · have := hr x hx
        omega
      · rw [List.mem_singleton.mp hx]
        exact c
    simp
    omega
  rw [e1, e2, List.getLast?_concat]
  obtain ⟨m1, v⟩ := m
  cases v with
  | none => rfl
  | some v => rfl
theorem neM_high {fl : Int} {ms : List Mk} {m : Mk} (c : fl < m.1) : neM fl (ms ++ [m]) = neM fl ms ++ [m] := by
  unfold neM
  have e1 : (ms ++ [m]).filter (fun m => decide (m.1 ≤ fl)) = ms.filter (fun m => decide (m.1 ≤ fl)) := by
    rw [List.filter_append, List.filter_cons_of_neg (by simp; omega), List.filter_nil, List.append_nil]
  have e2 : (ms ++ [m]).filter (fun m => decide (fl < m.1)) = ms.filter (fun m => decide (fl < m.1)) ++ [m] := by
    rw [List.filter_append, List.filter_cons_of_pos (by simp [c]), List.filter_nil]
  rw [e1, e2]
  cases e : (ms.filter (fun m => decide (m.1 ≤ fl))).getLast? with
  | none => rfl
  | some x =>
    obtain ⟨x1, v⟩ := x
    cases v <;> rfl
theorem ln_rev (fl : Int) : ∀ rs : List Mk, (rs.reverse).Pairwise (fun a b => a.1 < b.1) → lnM fl rs.reverse = neM fl rs.reverse
  | [], _ => rfl
  | m :: rs, h => by
    rw [List.reverse_cons] at h ⊢
    obtain ⟨h1, h2, h3⟩ := List.pairwise_append.mp h
    have ih := ln_rev fl rs h1
    have hr : ∀ x ∈ rs.reverse, x.1 < m.1 := fun x hx => h3 x hx m (List.mem_singleton.mpr rfl)
    rw [lnM_app, ih]
    unfold lnS
    by_cases c : m.1 ≤ fl
    · rw [if_pos c, neM_low hr c, List.nil_append]
      by_cases c2 : m.2 ≠ none
      · rw [if_pos c2, if_pos (.inr c2)]
      · rw [if_neg c2, if_neg (by rintro (h | h); omega; exact c2 h)]
    · rw [if_neg c, neM_high (by omega), if_pos (.inl (by omega))]
theorem ln_eq {fl : Int} {ms : List Mk} (h : ms.Pairwise fun a b => a.1 < b.1) : lnM fl ms = neM fl ms := by
  have := ln_rev fl ms.reverse (by rw [List.reverse_reverse]; exact h)
  rwa [List.reverse_reverse] at this
theorem neM_sub (fl : Int) (ms : List Mk) (h : ms.Pairwise fun a b => a.1 < b.1) : (neM fl ms).Pairwise (fun a b => a.1 < b.1) ∧ ∀ m ∈ neM fl ms, m ∈ ms := by
  unfold neM
  have hb : (ms.filter fun m => decide (fl < m.1)).Pairwise (fun a b => a.1 < b.1) := h.sublist List.filter_sublist
  have hm : ∀ m ∈ ms.filter (fun m => decide (fl < m.1)), m ∈ ms := fun m hm => (List.mem_filter.mp hm).1
  cases e : (ms.filter (fun m => decide (m.1 ≤ fl))).getLast? with
  | none => exact ⟨hb, hm⟩
  | some x =>
    have hx := List.mem_filter.mp (List.mem_of_getLast? e)
    obtain ⟨x1, v⟩ := x
    cases v with
    | none => exact ⟨hb, hm⟩
    | some v =>
      refine ⟨List.pairwise_cons.mpr ⟨fun y hy => ?_, hb⟩, fun m h2 => (List.mem_cons.mp h2).elim (fun e => e ▸ hx.1) (hm m)⟩
      have h1 := of_decide_eq_true hx.2
      have h2 := of_decide_eq_true (List.mem_filter.mp hy).2
      show x1 < y.1
      have h1 : x1 ≤ fl := h1
      omega
/-! how many, by keys -/
theorem perm_sumI {a b : List Int} (p : a.Perm b) : a.sum = b.sum := by
  induction p with
  | nil => rfl
  | cons x _ ih => rw [List.sum_cons, List.sum_cons, ih]
  | swap x y l => rw [List.sum_cons, List.sum_cons, List.sum_cons, List.sum_cons]; omega
  | trans _ _ h1 h2 => rw [h1, h2]
theorem sum_filt (f : Int → Int) : ∀ K : List Int, (K.map f).sum = ((K.filter fun k => decide (f k ≠ 0)).map f).sum
  | [] => rfl
  | k :: K => by
    have ih := sum_filt f K
    rw [List.map_cons, List.sum_cons, ih]
    by_cases c : f k = 0
    · rw [List.filter_cons_of_neg (by simp [c]), c, Int.zero_add]
    · rw [List.filter_cons_of_pos (by simp [c]), List.map_cons, List.sum_cons]
theorem totI_fn {ls : List Lt} (nd : (ksM ls).Nodup) : totI ls = ((ksM ls).map fun k => ((mkM ls k).length : Int)).sum := by
  unfold totI ksM
  rw [List.map_map]
  congr 1
  refine List.map_congr_left fun e he => ?_
  show _ = (((mkM ls e.1).length : Nat) : Int)
  unfold mkM
  rw [mkL_of nd he, List.length_map]
theorem totI_eq {ls ls' : List Lt} (nd : (ksM ls).Nodup) (nd' : (ksM ls').Nodup) (h : mkM ls = mkM ls') : totI ls = totI ls' := by
  rw [totI_fn nd, totI_fn nd', ← h, sum_filt, sum_filt _ (ksM ls')]
  refine perm_sumI (List.Perm.map _ ((List.perm_ext_iff_of_nodup (nd.sublist List.filter_sublist) (nd'.sublist List.filter_sublist)).mpr fun k => ?_))
  rw [List.mem_filter, List.mem_filter]
  have hin : ∀ {l : List Lt}, mkM ls = mkM l → decide ((((mkM ls k).length : Nat) : Int) ≠ 0) = true → k ∈ ksM l := fun {l} e hd => by
    rw [e] at hd
    by_cases c : k ∈ ksM l
    · exact c
    · unfold mkM at hd
      rw [mkL_not c] at hd
      exact absurd rfl (of_decide_eq_true hd)
  exact ⟨fun ⟨_, b⟩ => ⟨hin h b, b⟩, fun ⟨_, b⟩ => ⟨hin rfl b, b⟩⟩
/-- a sweep, the keys staying -/
structure Swp0 (fl : Int) (ls : List Lt) (i : Nat) (ls' : List Lt) : Prop where
  ks : ksM ls' = ksM ls
  mk_ : ∀ k, mkM ls' k = if k ∈ (ksM ls).take i then neM fl (mkM ls k) else mkM ls k
theorem Swp0.zero (fl : Int) (ls : List Lt) : Swp0 fl ls 0 ls := ⟨rfl, fun k => by simp⟩
theorem Swp0.all {fl : Int} {ls ls' : List Lt} (h : Swp0 fl ls ls.length ls') : mkM ls' = fun k => neM fl (mkM ls k) := by
  have e : ls.length = (ksM ls).length := (List.length_map ..).symm
  refine funext fun k => ?_
  rw [h.mk_, e, List.take_length]
  split
  · rfl
  · rename_i c
    unfold mkM
    rw [mkL_not c]
    rfl
section
variable {fl : Int} {ls ls' : List Lt} {i j : Nat} {k : Int} {p q : Addr} {ts us : List Mt}
theorem take_not (nd : (ksM ls).Nodup) (hk : (ksM ls)[i]? = some k) : k ∉ (ksM ls).take i := by
  have hil := (List.getElem?_eq_some_iff.mp hk).1
  have hd : (ksM ls).drop i = k :: (ksM ls).drop (i + 1) := by
    rw [List.drop_eq_getElem_cons hil]
    rw [List.getElem?_eq_getElem hil] at hk
    cases hk
    rfl
  intro hm
  have e : (ksM ls) = (ksM ls).take i ++ k :: (ksM ls).drop (i + 1) := by rw [← hd, List.take_append_drop]
  rw [e] at nd
  exact (List.nodup_append.mp nd).2.2 k hm k (List.mem_cons_self ..) rfl
theorem Swp0.at_ (h : Swp0 fl ls i ls') (hk : (ksM ls)[i]? = some k) (nd : (ksM ls).Nodup) : k ∈ ksM ls' ∧ mkM ls' k = mkM ls k :=
  ⟨by rw [h.ks]; exact List.mem_of_getElem? hk, by rw [h.mk_, if_neg (take_not nd hk)]⟩
theorem Swp0.step (h : Swp0 fl ls i ls') (nd : (ksM ls).Nodup) (hk : (ksM ls)[i]? = some k) (hj : ls'[j]? = some (k, p, ts)) (he : us.map (·.2) = neM fl (mkM ls k)) : Swp0 fl ls (i + 1) (ls'.set j (k, q, us)) := by
  refine ⟨by rw [ksM_setQ hj, h.ks], fun k' => ?_⟩
  unfold mkM
  rw [mkL_setQ (by rw [h.ks]; exact nd) hj, tk_succ hk]
  by_cases c : k' = k
  · rw [if_pos c, if_pos (List.mem_append_right _ (by rw [c]; exact List.mem_singleton.mpr rfl)), c]
    exact he
  · rw [if_neg c]
    have e : k' ∈ (ksM ls).take i ++ [k] ↔ k' ∈ (ksM ls).take i := by simp [c]
    have := h.mk_ k'
    unfold mkM at this
    rw [this]
    by_cases c2 : k' ∈ (ksM ls).take i
    · rw [if_pos c2, if_pos (e.mpr c2)]
    · rw [if_neg c2, if_neg fun h => c2 (e.mp h)]
end
theorem r_dgeF {H : Hp} {a : Addr} {o : Obj} {kvs : List (Key × V)} {n : Int} {v : V} {Q : VK} (h : H a = some (.frz o (.dK kvs))) (e : valV kvs (Sum.inl n) = some v) (q : Q v H) : rDGe Q (.ref a) (.int n) H :=
  ⟨a, v, rfl, .inl ⟨kvs, Sum.inl n, .inr ⟨o, h⟩, rfl, e.symm⟩, q⟩
end Z

/-! Z10: reversed(list) in loops and comprehensions. -/
namespace Z
open PySem PySem.Spec PyProof.Rows L2
section
variable {K : PySem.W.Frag} {σ : L2.St} {H : Hp} {D : Ends} {tb : TS} {g : TG} {R : It → Hp → Prop} {ta : TA} {a : Addr} {xs : List V}
def rRev (K : PySem.W.Frag) (R : It → Hp → Prop) (vs : List V) (H1 : Hp) : Prop := ∃ (a : Addr) (xs : List V), vs = [.ref a] ∧ SqL K H1 a xs ∧ R (Itv K a xs.length) H1
theorem g_rev (h : ta σ H (rRev K R)) : iRev K ta σ H R := h
theorem r_rev (h : SqL K H a xs) (q : R (Itv K a xs.length) H) : rRev K R [.ref a] H := ⟨a, xs, rfl, h, q⟩
theorem FOR.rev (Pv : Nat → L2.St → Hp → Prop) (h0 : Pv 0 σ H) (hq : ∀ i σ H, Pv i σ H → SqL K H a xs)
    (hs : ∀ (i : Nat) (x : V) (σ : L2.St) (H : Hp), xs.reverse[i]? = some x → Pv i σ H → g x σ H fun σ2 H2 => tb { D with nx := Pv (i + 1), ct := Pv (i + 1), bk := D.nx } σ2 H2) (hd : ∀ σ H, Pv xs.length σ H → D.nx σ H) : FOR (Itv K a xs.length) g tb D σ H :=
  RT.for_Itv Pv h0 hq (fun i x σ H hi e p => hs i x σ H (by rw [List.getElem?_reverse hi]; exact e) p) hd
theorem FOR.revJ (J : L2.St → Hp → Prop) (hJ : ∀ σ H, J σ H → D.nx σ H) (Pv : Nat → L2.St → Hp → Prop) (h0 : Pv 0 σ H) (hq : ∀ i σ H, Pv i σ H → SqL K H a xs)
    (hs : ∀ N : L2.St → Hp → Prop, (∀ σ' H', J σ' H' → N σ' H') → ∀ (i : Nat) (x : V) (σ : L2.St) (H : Hp), xs.reverse[i]? = some x → Pv i σ H → g x σ H fun σ2 H2 => tb { D with nx := Pv (i + 1), ct := Pv (i + 1), bk := N } σ2 H2) (hd : ∀ σ H, Pv xs.length σ H → J σ H) : FOR (Itv K a xs.length) g tb D σ H :=
  FOR.rev Pv h0 hq (hs D.nx hJ) fun σ H p => hJ _ _ (hd σ H p)
end
section
variable {K : PySem.W.Frag} {B H H1 : Hp} {L : List Cell} {D : Addr} {Q : VK} {g : TG} {tt : TT} {te : TE} {vs : List Nat} {σ : L2.St} {acc : List V} {y : V} {Nx : Hp → Prop}
theorem LC.rev {a : Addr} {xs : List V} (w : W B L H1) (hD : H1 D = none) (hx : SqL K B a xs) (hlen : xs.length < sizeLine) (Pv : Nat → Hp → List V → Prop) (h0 : Pv 0 B [])
    (hs : ∀ i x B' acc H (Nx : Hp → Prop), xs.reverse[i]? = some x → Same B B' → W B' ((D, .lst acc) :: L) H → Pv i B' acc → acc.length ≤ i → acc.length < sizeLine →
      (∀ B'' acc' H', Same B' B'' → W B'' ((D, .lst acc') :: L) H' → Pv (i + 1) B'' acc' → acc'.length ≤ i + 1 → Nx H') →
      g x (wipe σ vs) H fun σ2 H2 => wipe σ2 vs = wipe σ vs ∧ tt σ2 H2 fun b H3 => Br b (te σ2 H3 (rAcc D Nx)) (Nx H3))
    (hd : ∀ B' B'' acc H, Same B B'' → Same' B' B'' → B'' D = some (.lst acc) → W B'' L H → Pv xs.length B' acc → acc.length ≤ xs.length → Q (.ref D) H) : LC (Itv K a xs.length) D g tt te vs σ H1 Q := by
  refine ⟨fun i m H => m = xs.length - i ∧ i ≤ xs.length ∧ ∃ B' acc, Same B B' ∧ W B' ((D, .lst acc) :: L) H ∧ Pv i B' acc ∧ acc.length ≤ i, ⟨xs.length, by simp, Nat.zero_le _, B, [], same_refl B, w.newL hD _, h0, Nat.le_refl _⟩, ?_⟩
  rintro i m H ⟨rfl, hi, B', acc, s, w', p, l⟩
  have hq : SqL K H a xs := Same.seq (same_trans s w'.sub) hx
  by_cases hlt : i < xs.length
  · have hj : xs.length - 1 - i < xs.length := by omega
    refine .inr ⟨⟨hlt, xs, _, hq, List.getElem?_eq_getElem hj⟩, fun H' => ∃ B'' acc', Same B B'' ∧ W B'' ((D, .lst acc') :: L) H' ∧ Pv (i + 1) B'' acc' ∧ acc'.length ≤ i + 1, fun H' p' => ⟨xs.length - (i + 1), by omega, rfl, hlt, p'⟩, fun v H' hy => ?_⟩
    obtain ⟨e, hy⟩ := hy
    subst e
    have e2 : xs.reverse[i]? = some v := by rw [List.getElem?_reverse hlt]; exact hy _ hq
    exact hs i v B' acc _ _ e2 s w' p l (by omega) fun B'' acc' H' s' w'' p' l' => ⟨B'', acc', same_trans s s', w'', p', l'⟩
  · have e : i = xs.length := by omega
    subst e
    exact .inl ⟨Nat.le_refl _, hd B' _ acc H (same_trans s (same_new (w'.out _ (List.mem_cons_self ..)))) (same_new (w'.out _ (List.mem_cons_self ..))) upd_same w'.give p l⟩
end
end Z

/-! Z11: a slice by a step that is an expression; list.remove; dict(d), list(d). -/
namespace Z
open PySem PySem.Spec PyProof.Rows L2
def rStepE (K : PySem.W.Frag) (Q : VK) (x y : V) (H : Hp) : Prop := ∃ c : Int, y = .int c ∧ 0 < c ∧ rStep K Q x H
def tStepE (K : PySem.W.Frag) (te ts : TE) : TE := fun σ H Q => te σ H fun x H1 => ts σ H1 fun y H2 => rStepE K Q x y H2
section
variable {X : Cx}
/-- xs[::k], k any expression -/
theorem pe_stepE {e st : Expr} {te ts : TE} {p3 pos : Pos} (he : PE X e te) (hs : PE X st ts) (hp : ∀ o i : Value, subscripted (.Slice none none (some st) p3) false o i = operate [o, i] (getItem o i)) : PE X (.Subscript e (.Slice none none (some st) p3) pos) (tStepE X.K te ts) := by
  refine ⟨fun pins s σ H Q I h => ?_⟩
  refine Subscript_ (thn (he.run pins s σ H _ I h) fun v s1 ⟨x, H1, I1, r1, q1⟩ => ?_)
  have hst : PO X (some st) (tPart ts) := po_some hs
  refine wpAny_Slice (thn (po_none.run pins s1 σ H1 (fun o H2 => o = none ∧ H2 = H1) I1 ⟨rfl, rfl⟩) fun vl s2 ⟨l, H2, I2, pl, el, e2⟩ => ?_)
  subst el e2
  refine thn (po_none.run pins s2 σ H2 (fun o H3 => o = none ∧ H3 = H2) I2 ⟨rfl, rfl⟩) fun vu s3 ⟨u, H3, I3, pu, eu, e3⟩ => ?_
  subst eu e3
  refine thn (hst.run pins s3 σ H3 (fun o H4 => match o with | some c => 0 < c ∧ rStep X.K Q x H4 | none => False) I3 q1) fun vs s4 ⟨o, H4, I4, ps, q4⟩ => ?_
  cases o with
  | none => exact q4.elim
  | some c =>
  obtain ⟨hc, a, xs, ex, hx, q⟩ := q4
  subst ex
  cases r1
  have I5 : Inv X pins σ H4 { s4 with heap := s4.heap.push { cls := .type "slice", data := .fields #[vl, vu, vs] } } := I4.kept (t' := s4.toks) fun b ob q => Heap.get?_push_of_some _ q
  obtain ⟨its, r, ht, hz⟩ := I5.list hx
  have hlen := r.length
  show wpAny (model X.prog X.w) X.A (subscriptTail e (.Slice none none (some st) p3) (.ref a) (.ref s4.heap.objs.size)) (EP X pins σ Q) X.xe { s4 with heap := s4.heap.push { cls := .type "slice", data := .fields #[vl, vu, vs] } }
  refine tail_any (ops := [.ref a, .ref s4.heap.objs.size]) ht.isList.typeIs (PySem.slot_list_getitem.lookup) ?_ (hp _ _)
  refine wpAny_getItem_list_slice ht.isList (Heap.IsSliceOf.new _ vl vu vs) pl pu ps (by simp; omega) ?_ (by rw [List.size_toArray]; omega)
  have h1 := slicePick_size_le its.toArray none none (some c)
  have hv := vals_pick r (sliceRange (sliceBounds none none (some c) its.toArray.size).1 (sliceBounds none none (some c) its.toArray.size).2.1 (sliceBounds none none (some c) its.toArray.size).2.2)
  have hj : (sliceRange (sliceBounds none none (some c) its.toArray.size).1 (sliceBounds none none (some c) its.toArray.size).2.1 (sliceBounds none none (some c) its.toArray.size).2.2).Pairwise (· < ·) := by
    have h3 : (sliceBounds none none (some c) its.toArray.size).2.2 = c := rfl
    rw [h3]
    refine range_up ?_ hc
    simp only [sliceBounds, Option.getD_some, gt_iff_lt, hc, if_true]
    omega
  unfold slicePick at h1 ⊢
  generalize sliceRange (sliceBounds none none (some c) its.toArray.size).1 (sliceBounds none none (some c) its.toArray.size).2.1 (sliceBounds none none (some c) its.toArray.size).2.2 = js at h1 hv hj ⊢
  have hl2 : (js.filterMap (xs[·]?)).length ≤ xs.length := by rw [hv.length]; rw [List.size_toArray, List.size_toArray] at h1; omega
  refine ⟨.ref _, _, I5.laid (t' := s4.toks) (o := .lst (js.filterMap (xs[·]?))) (fun b ob q => Heap.get?_push_of_some _ q) (Nat.le_refl _) ?_, rfl, q js _ hj hl2 (I5.hok.fresh (Nat.le_refl _))⟩
  exact ⟨by omega, _, 0, hv, Heap.get?_push_size _ rfl⟩
end
section
variable {K : PySem.W.Frag} {σ : L2.St} {B H : Hp} {L : List Cell} {te ts : TE} {a : Addr} {ns : List Int} {Q : VK} {n c : Int} {x : V}
theorem g_stepE (h : te σ H fun x H1 => ts σ H1 fun y H2 => rStepE K Q x y H2) : tStepE K te ts σ H Q := h
theorem r_stepE (hc : 0 < c) (h : rStep K Q x H) : rStepE K Q x (.int c) H := ⟨c, rfl, hc, h⟩
/-- a number that stands in the list is taken out, once -/
theorem erase_at : ∀ {ns : List Int} {n : Int}, n ∈ ns → ∃ j, ns[j]? = some n ∧ (∀ m : Nat, m < j → ns[m]? ≠ some n) ∧ ns.eraseIdx j = ns.erase n
  | m :: r, n, h => by
    by_cases e : m = n
    · subst e
      exact ⟨0, rfl, fun m hm => absurd hm (by omega), by rw [List.erase_cons_head]; rfl⟩
    · rcases List.mem_cons.mp h with h | h
      · exact absurd h.symm e
      · obtain ⟨j, h1, h2, h3⟩ := erase_at h
        refine ⟨j + 1, h1, fun i hi => ?_, ?_⟩
        · cases i with
          | zero => intro z; cases z; exact e rfl
          | succ i => exact h2 i (by omega)
        · rw [List.eraseIdx_cons_succ, h3, List.erase_cons_tail (by simpa using e)]
theorem r_remove (h : H a = some (.lst (ns.map V.int))) (hn : n ∈ ns) (q : Q .non (upd H a (.lst ((ns.erase n).map V.int)))) : rRemI (.ref a) [.int n] H Q := by
  obtain ⟨j, h1, h2, h3⟩ := erase_at hn
  exact ⟨a, ns, n, j, rfl, rfl, h, h1, h2, by rw [h3]; exact q⟩
def rDictD : List V → Hp → VK → Prop := fun xs H Q => ∃ (a : Addr) (kvs : List (Key × V)), xs = [.ref a] ∧ Rd H a (.dK kvs) ∧ ∀ p, H p = none → Q (.ref p) (upd H p (.dK kvs))
theorem call_dictZ {X : Cx} : CallR X (.type "dict") rDictD := call_dictD
theorem r_dictD {kvs : List (Key × V)} (w : W B L H) (h : H a = some (.dK kvs)) (q : ∀ p H', H p = none → W B ((p, .dK kvs) :: L) H' → Q (.ref p) H') : rDictD [.ref a] H Q :=
  ⟨a, kvs, rfl, .inl h, fun p hp => q p _ hp (w.newL hp _)⟩
end
end Z

set_option maxHeartbeats 4000000
/-! Z29: sorted(d.items()), whole numbers. -/
namespace Z
open PySem PySem.Spec PyProof.Rows L2 LiI
theorem items_laid0 {X : Cx} {pins : List (Addr × Obj)} {σ : L2.St} {H : Hp} {s : Shared} {h' : Heap} {tk : Nat} {kvs : List (Key × V)} {vs : List (Key × Value)} {as : List Addr} (I : Inv X pins σ H s) (hz : kvs.length ≤ sizeLine) (kv : KV kvs vs)
    (hk : ∀ b o, s.heap.get? b = some o → h'.get? b = some o) (hl : as.length = vs.length) (hG : PySem.W.KdxG (mixKind X.prog X.w) vs s.heap.objs.size h' as) :
    ∃ H' : Hp, (∀ b o, H b = some o → H' b = some o) ∧ (∀ t ∈ as, H t = none) ∧ Paired (fun (t : Addr) (q : Key × V) => H' t = some (.tup [kV q.1, q.2])) as kvs ∧ Inv X pins σ H' { s with heap := h', toks := tk } := by
  have lk : kvs.length = vs.length := Paired.length kv
  have nd : as.Nodup := List.Pairwise.imp (fun {a b} (h : a < b) => Nat.ne_of_lt h) hG.rise
  have new : ∀ t ∈ as, H t = none := fun t ht => I.hok.fresh (Nat.le_of_lt (hG.above t ht))
  have atP := putT_at as kvs H (by omega) nd
  have off : ∀ b, b ∉ as → putT H as kvs b = H b := fun b h1 => putT_off as kvs _ h1
  have low : ∀ b o, s.heap.get? b = some o → b ∉ as := fun b o e z => absurd (Heap.lt_size e) (Nat.not_lt.mpr (Nat.le_of_lt (hG.above b z)))
  have kp : ∀ b u, H b = some u → (putT H as kvs) b = some u := fun b u e => by
    rw [off b (fun z => by rw [new b z] at e; cases e)]
    exact e
  refine ⟨putT H as kvs, kp, new, atP, ?_⟩
  refine I.call' (ch := []) rfl ⟨fun b o q _ _ _ => hk b o q, fun b o q _ _ _ => ⟨o.slots, hk b o q⟩, fun b o q n _ => ?_, fun b o q _ => ⟨o, hk b o q⟩, fun b xs q => kp b _ q, fun b o u q => kp b _ q, fun b ps q => ⟨#[], by rw [kp b _ q]; simp⟩⟩ (fun b u q => ?_) I.bare fun b z => by simp at z
  · rw [off b (low b o q)]
    exact n
  · by_cases hb : b ∈ as
    · obtain ⟨j, pk, e1, e2, e3⟩ := paired_ix atP hb
      rw [e3] at q
      cases q
      obtain ⟨key, k, x, f1, f2, f3⟩ := hG.pairs j b e1
      obtain ⟨qv, g1, g2, g3⟩ := LiI.paired_get kv e2
      rw [f1] at g1
      cases g1
      have rk : RelV (kV pk.1) key := by
        rw [g2]
        exact relV_key (show keyIs k key = true from f2)
      exact ⟨by show 2 ≤ sizeLine; decide, [key, x], .cons rk (.cons g3 .nil), ⟨_, f3, rfl, _, rfl⟩⟩
    · rw [off b hb] at q
      exact (I.hok b u q).stay (fun d v _ y => hk d v y) (fun d y => kp d _ y) fun d xs y => kp d _ y
/-- the tuples' pairs, sorted -/
def rSortIt : V → Hp → VK → Prop := fun x H Q => ∃ (d : Addr) (l : Kv), x = .ref d ∧ H d = some (.dK (dkP l)) ∧
  ∀ (H' : Hp) (p : Addr) (us : List Addr) (qs : Kv), Same H H' → H p = none → (∀ t ∈ us, H t = none) → H' p = some (.lst (us.map V.ref)) → TP H' us qs → qs.Perm l → qs.Pairwise (fun x y => SrtO.lexB y x = false) → Q (.ref p) H'
def tSortIt (te : TE) : TE := fun σ H Q => te σ H fun x H1 => rSortIt x H1 Q
def vPr (H : Hp) : Value → Int × Int
  | .ref t => prT H t
  | _ => (0, 0)
def vlAd : Value → Addr
  | .ref t => t
  | _ => 0
theorem sort_itemsOf {X : Cx} {pins : List (Addr × Obj)} {σ : L2.St} {H : Hp} {s : Shared} {Q : VK} {r d : Addr} {l : Kv} {vs : List (Key × Value)} {ep : Nat} (hcalm : X.calm = true) (I : Inv X pins σ H s) (kv : KV (dkP l) vs)
    (hv : s.heap.IsItemsView r d) (hat : s.heap.DictAt (mixKind X.prog X.w) d vs ep) (z : (dkP l).length ≤ sizeLine)
    (q : ∀ (H' : Hp) (p : Addr) (us : List Addr) (qs : Kv), Same H H' → H p = none → (∀ t ∈ us, H t = none) → H' p = some (.lst (us.map V.ref)) → TP H' us qs → qs.Perm l → qs.Pairwise (fun x y => SrtO.lexB y x = false) → Q (.ref p) H') :
    wpAny (model X.prog X.w) X.A (call (.builtin "sorted") [.ref r]) (EP X pins σ Q) X.xe s := by
  have hl0 : (dkP l).length = vs.length := Paired.length kv
  refine Calls.call_function_entry PyProof.Rows.kind_sorted PyProof.Rows.plain_sorted PyProof.Rows.entry_sorted (PyProof.Rows.args_sorted1 _) ?_
  unfold Builtin.«sorted»
  refine wpAny_bind (m := checkCount "sorted" 1 1 _) (wpAny_pure ?_)
  refine wpAny_bind (PySem.W.kdx_collect (A := X.A.in1) (knd := mixKind X.prog X.w) (kvs := vs) (ep := ep) (I.ok.hd hcalm) hv hat (by omega) fun h' tk as hk hl hG => ?_)
  obtain ⟨H2, k1, k3, atP, J⟩ := items_laid0 (tk := tk) I z kv hk hl hG
  have tp := tp_paired atP
  have hz : (as.map Value.ref).length ≤ sizeLine := by rw [List.length_map, hl, ← hl0]; exact z
  refine wpAny_bind (wpAny_newList ?_ hz)
  have hoL : (h'.push (seqObj "list" (as.map Value.ref).toArray 0)).get? h'.objs.size = some (seqObj "list" (as.map Value.ref).toArray 0) := Heap.get?_push_size _ rfl
  show wpAny _ _ _ _ _ { s with heap := h'.push (seqObj "list" (as.map Value.ref).toArray 0), toks := tk }
  have hp : ∀ v ∈ as.map Value.ref, Srt.IsPair (h'.push (seqObj "list" (as.map Value.ref).toArray 0)) v (vPr H2 v).1 (vPr H2 v).2 := fun v hv => by
    obtain ⟨t, ht, rfl⟩ := List.mem_map.mp hv
    obtain ⟨_, its2, r2, o, ho, hc, n, hd⟩ := J.hok _ _ (tp.all t ht)
    obtain ⟨u1, u2, rfl, ri, rj⟩ := vals2 r2
    obtain ⟨t1, rfl⟩ := ri
    obtain ⟨t2, rfl⟩ := rj
    exact ⟨t, o, t1, t2, n, rfl, Heap.get?_push_of_some _ ho, hc, hd⟩
  refine wpAny_bind (wpAny_holding (wpAny_call_entry PyProof.Rows.slot_list_sort ⟨_, hoL, rfl⟩ PyProof.Rows.entry_list_sort
    (SrtO.list_sort_ord (SrtO.swo_lex (vPr H2)) (s := { s with heap := h'.push (seqObj "list" (as.map Value.ref).toArray 0), toks := tk }) hoL hz (fun h2 => SrtO.pairs_sortableO (by omega) hp fun o e => ?_) fun out h1 h2 => ⟨_, rfl, ?_⟩)
    (PyProof.Rows.args_list_sort _)))
  · have e' : some o = some (seqObj "list" (as.map Value.ref).toArray 0) := e.symm.trans hoL
    cases e'
    intro c
    exact absurd (Value.type.inj c) (by decide)
  · obtain ⟨us, rfl⟩ : ∃ us : List Addr, out = us.map Value.ref := by
      have hall : ∀ u ∈ out, ∃ t, u = Value.ref t := fun u hu => by
        obtain ⟨t, _, rfl⟩ := List.mem_map.mp (h2.perm.mem_iff.mp hu)
        exact ⟨t, rfl⟩
      clear h1 h2
      induction out with
      | nil => exact ⟨[], rfl⟩
      | cons u out ih =>
        obtain ⟨t, rfl⟩ := hall u (List.mem_cons_self ..)
        obtain ⟨us, rfl⟩ := ih fun u hu => hall u (List.mem_cons_of_mem _ hu)
        exact ⟨t :: us, rfl⟩
    have hpm : us.Perm as := by
      have := h2.perm.map vlAd
      rw [List.map_map, List.map_map, show (vlAd ∘ Value.ref) = id from rfl, List.map_id, List.map_id] at this
      exact this
    obtain ⟨e', he'⟩ := PyProof.Rows.sortedHeap_at (vs := as.map Value.ref) (out := (us.map Value.ref).toArray) hoL
    have hlen : (us.map V.ref).length ≤ sizeLine := by
      rw [List.length_map, hpm.length_eq]
      rw [List.length_map] at hz
      exact hz
    have hn : H2 h'.objs.size = none := J.hok.fresh (Nat.le_refl _)
    have hn0 : H h'.objs.size = none := by
      cases e : H h'.objs.size with
      | none => rfl
      | some o => rw [k1 _ _ e] at hn; cases hn
    have s3 := same_new (o := .lst (us.map V.ref)) hn
    obtain ⟨qs, tq, pq⟩ := tp.perm hpm
    refine wpAny_pure ⟨_, rfl, .ref h'.objs.size, upd H2 h'.objs.size (.lst (us.map V.ref)), J.laid (t' := tk) (fun b u e => ?_) (Nat.le_refl _)
      (show ObjOk X.prog X.w _ _ _ (.lst (us.map V.ref)) from ⟨hlen, us.map Value.ref, e', LiI.vals_refs us, he'⟩), rfl, q _ _ us qs (same_trans k1 s3) hn0 (fun t ht => k3 t (hpm.mem_iff.mp ht)) upd_same (tq.mono s3) pq ?_⟩
    · have hb : b < h'.objs.size := Heap.lt_size e
      rw [PyProof.Rows.sortedHeap_old (Nat.ne_of_lt hb) (by rw [size_push']; exact Nat.lt_succ_of_lt hb)]
      exact Heap.get?_push_of_some _ e
    · rw [tq.eq, List.pairwise_map]
      have h1 : (us.map Value.ref).Pairwise fun x y => SrtO.lexB (vPr H2 y) (vPr H2 x) = false := h1
      exact List.pairwise_map.mp h1
section
variable {X : Cx} {e : Expr} {te : TE} {p apos cpos pos : Pos}
theorem pe_sortItems (hc : X.calm = true) (he : PE X e te) (hg : Gl X "sorted") (hm : X.mg "sorted" = none) (hv : bootBuiltins "sorted" = some (.builtin "sorted")) (hbase : attributeBase e "items" X.env (eval e X.env) = eval e X.env := by rfl) (hline : (apos.endLine == cpos.line) = true := by rfl)
    (hs : starEach [.Call (.Attribute e "items" apos) [] [] cpos] X.env = (false, eval (.Call (.Attribute e "items" apos) [] [] cpos) X.env) :: starEach [] X.env := by rfl) :
    PE X (.Call (.Name "sorted" p) [.Call (.Attribute e "items" apos) [] [] cpos] [] pos) (tSortIt te) := by
  refine ⟨fun pins s σ H Q I hq => ?_⟩
  refine wpAny_Call_Name_kw (ld_blt I hg hm hv ?_)
  refine PyProof.Rows.callWith_builtin1 ?_ hs rfl
  rw [hs]
  show wpAny _ _ (spliced ((false, eval (.Call (.Attribute e "items" apos) [] [] cpos) X.env) :: backTo pos (starEach [] X.env))) _ _ s
  refine Calls.spliced_cons ?_
  refine wpAny_Call_method (T := "dict") (id := "dict.items") hbase rfl hline F.plainAttrs_dict F.slot_dict_items F.type_dict_items (thn (he.run pins s σ H _ I hq) fun u s1 ⟨x, H1, I1, rx, d, l, ex, hd, q⟩ => ?_)
  obtain rfl : x = .ref d := by simpa using ex
  obtain rfl : u = Value.ref d := rx
  obtain ⟨hz, hs0, vs, kv, hdo⟩ := I1.hok d _ hd
  obtain ⟨ep, hat⟩ := hdo.dictAt
  have I2 : Inv X pins σ H1 { s1 with heap := s1.heap.push { cls := .type "dict_items", data := .fields #[.ref d] } } := I1.kept (t' := s1.toks) fun b ob q => Heap.get?_push_of_some _ q
  refine ⟨hdo.typeIs, hdo.mapOf.noDict, ?_⟩
  show wpAny _ _ (callWith cpos (.builtin "dict.items") [.ref d] [] []) _ X.xe s1
  refine method_meetsIn F.slot_dict_items F.entry_dict_items rfl (PySem.evalArgs_none ⟨rfl, hdo.typeIs, F.args_dict_items_1 _, _, meets_dict_items (mixKind X.prog X.w) d hs0, ⟨vs, hdo⟩, ?_⟩)
  refine Calls.spliced_nil ?_
  exact sort_itemsOf hc I2 kv ⟨_, Heap.get?_push_size _ rfl, rfl, rfl⟩ (hat.push _) hz q
end
section
variable {σ : L2.St} {H B : Hp} {Q : VK} {te : TE} {d : Addr} {l : Kv} {L : List Cell}
theorem g_sortIt (h : te σ H fun x H1 => rSortIt x H1 Q) : tSortIt te σ H Q := h
theorem r_sortIt (w : W B L H) (h : H d = some (.dK (dkP l))) (q : ∀ (p : Addr) (us : List Addr) (qs : Kv) (B' H' : Hp), Same B B' → B' p = some (.lst (us.map V.ref)) → TP B' us qs → qs.Perm l → qs.Pairwise (fun x y => SrtO.lexB y x = false) → W B' L H' → Q (.ref p) H') : rSortIt (.ref d) H Q := by
  refine ⟨d, l, rfl, h, fun H' p us qs s hp hus e tp pm so => ?_⟩
  obtain ⟨B', s1, w', hN⟩ := w.grow s (p :: us) (fun b hb => (List.mem_cons.mp hb).elim (fun z => z ▸ hp) (hus b))
  refine q p us qs B' H' s1 (hN p (List.mem_cons_self ..) _ e) ?_ pm so w'
  exact ⟨fun t ht => by
    have e2 := tp.all t ht
    have e3 := hN t (List.mem_cons_of_mem _ ht) _ e2
    rw [prT_of e3]; exact e3, by
    rw [tp.eq]
    exact List.map_congr_left fun t ht => (prT_of (hN t (List.mem_cons_of_mem _ ht) _ (tp.all t ht))).symm⟩
end
end Z

set_option maxHeartbeats 4000000
/-! Mmk4: what a key had behind a moment. -/
namespace Z
open PySem PySem.Spec PyProof.Rows L2 LiI
def vaF (m : Int) : Option Int → List Mk → Option Int
  | acc, [] => acc
  | acc, x :: xs => if m < x.1 then acc else vaF m x.2 xs
def vaM (ms : List Mk) (m : Int) : Option Int := vaF m none ms
abbrev Ris (ms : List Mk) : Prop := ms.Pairwise fun a b => a.1 < b.1
abbrev lowF (ms : List Mk) (m : Int) : List Mk := ms.filter fun x => decide (x.1 ≤ m)
abbrev hiF (ms : List Mk) (m : Int) : List Mk := ms.filter fun x => decide (m < x.1)
theorem lastD (x : Mk) (l : List Mk) : (x :: l).getLast? = some (l.getLast?.getD x) := by
  cases l with
  | nil => rfl
  | cons y l => rw [List.getLast?_cons_cons]; cases e : (y :: l).getLast? with
    | none => exact absurd (List.getLast?_eq_none_iff.mp e) (by simp)
    | some z => rfl
theorem vaF_eq (m : Int) : ∀ (ms : List Mk) (acc : Option Int), Ris ms → vaF m acc ms = match (lowF ms m).getLast? with
    | some x => x.2
    | none => acc
  | [], acc, _ => rfl
  | x :: xs, acc, h => by
    obtain ⟨h1, h2⟩ := List.pairwise_cons.mp h
    unfold vaF
    by_cases c : m < x.1
    · have e : lowF (x :: xs) m = [] := List.filter_eq_nil_iff.mpr fun y hy => by
        rcases List.mem_cons.mp hy with rfl | hy
        · simp; omega
        · have := h1 y hy
          simp; omega
      rw [if_pos c, e]
      rfl
    · have e : lowF (x :: xs) m = x :: lowF xs m := List.filter_cons_of_pos (by simp; omega)
      rw [if_neg c, e, lastD, vaF_eq m xs x.2 h2]
      cases (lowF xs m).getLast? <;> rfl
theorem va_eq {ms : List Mk} (h : Ris ms) (m : Int) : vaM ms m = (lowF ms m).getLast?.bind (·.2) := by
  unfold vaM
  rw [vaF_eq m ms none h]
  cases (lowF ms m).getLast? <;> rfl
theorem ris_app {ms : List Mk} {x : Mk} (h : Ris ms) (hx : ∀ y ∈ ms, y.1 < x.1) : Ris (ms ++ [x]) :=
  List.pairwise_append.mpr ⟨h, List.pairwise_singleton _ _, fun a ha b hb => by rw [List.mem_singleton.mp hb]; exact hx a ha⟩
theorem va_old {ms : List Mk} {x : Mk} (h : Ris ms) (hx : ∀ y ∈ ms, y.1 < x.1) {m : Int} (hm : m < x.1) : vaM (ms ++ [x]) m = vaM ms m := by
  rw [va_eq (ris_app h hx), va_eq h, show lowF (ms ++ [x]) m = lowF ms m from by
    unfold lowF
    rw [List.filter_append, List.filter_cons_of_neg (by simp; omega), List.filter_nil, List.append_nil]]
theorem va_new {ms : List Mk} {x : Mk} (h : Ris ms) (hx : ∀ y ∈ ms, y.1 < x.1) {m : Int} (hm : x.1 ≤ m) : vaM (ms ++ [x]) m = x.2 := by
  rw [va_eq (ris_app h hx), show lowF (ms ++ [x]) m = ms ++ [x] from List.filter_eq_self.mpr fun y hy => by
    rcases List.mem_append.mp hy with hy | hy
    · have := hx y hy
      simp; omega
    · rw [List.mem_singleton.mp hy]
      simpa using hm, List.getLast?_concat]
  rfl
theorem va_top {ms : List Mk} (h : Ris ms) {m m' : Int} (hx : ∀ y ∈ ms, y.1 ≤ m) (hx' : ∀ y ∈ ms, y.1 ≤ m') : vaM ms m = vaM ms m' := by
  rw [va_eq h, va_eq h, show lowF ms m = ms from List.filter_eq_self.mpr fun y hy => decide_eq_true (hx y hy), show lowF ms m' = ms from List.filter_eq_self.mpr fun y hy => decide_eq_true (hx' y hy)]
theorem split_ms : ∀ {ms : List Mk} (fl : Int), Ris ms → ms = lowF ms fl ++ hiF ms fl
  | [], _, _ => rfl
  | x :: xs, fl, h => by
    obtain ⟨h1, h2⟩ := List.pairwise_cons.mp h
    by_cases c : x.1 ≤ fl
    · rw [show lowF (x :: xs) fl = x :: lowF xs fl from List.filter_cons_of_pos (by simpa using c), show hiF (x :: xs) fl = hiF xs fl from List.filter_cons_of_neg (by simp; omega), List.cons_append, ← split_ms fl h2]
    · have e1 : lowF (x :: xs) fl = [] := List.filter_eq_nil_iff.mpr fun y hy => by
        rcases List.mem_cons.mp hy with rfl | hy
        · simpa using c
        · have := h1 y hy
          simp; omega
      have e2 : hiF (x :: xs) fl = x :: xs := List.filter_eq_self.mpr fun y hy => by
        rcases List.mem_cons.mp hy with rfl | hy
        · simp; omega
        · have := h1 y hy
          simp; omega
      rw [e1, e2]
      rfl
theorem va_ne {ms : List Mk} {fl m : Int} (h : Ris ms) (hm : fl ≤ m) : vaM (neM fl ms) m = vaM ms m := by
  have hn := (neM_sub fl ms h).1
  rw [va_eq hn, va_eq h]
  have low : ∀ y ∈ lowF ms fl, y.1 ≤ m := fun y hy => by
    have := of_decide_eq_true (List.mem_filter.mp hy).2
    omega
  have e1 : lowF ms m = lowF ms fl ++ lowF (hiF ms fl) m := by
    conv => lhs; rw [split_ms fl h]
    unfold lowF
    rw [List.filter_append]
    congr 1
    exact List.filter_eq_self.mpr fun y hy => decide_eq_true (low y hy)
  rw [e1, List.getLast?_append]
  unfold neM
  cases e : (lowF ms fl).getLast? with
  | none =>
    have e2 : (ms.filter fun m => decide (m.1 ≤ fl)).getLast? = none := e
    show (lowF (hiF ms fl) m).getLast?.bind (·.2) = _
    cases (lowF (hiF ms fl) m).getLast? <;> rfl
  | some x =>
    have e2 : (ms.filter fun m => decide (m.1 ≤ fl)).getLast? = some x := e
    have hx := low x (List.mem_of_getLast? e)
    obtain ⟨x1, v⟩ := x
    cases v with
    | none =>
      show (lowF (hiF ms fl) m).getLast?.bind (·.2) = _
      cases (lowF (hiF ms fl) m).getLast? <;> rfl
    | some v =>
      show (lowF ((x1, some v) :: hiF ms fl) m).getLast?.bind (·.2) = _
      rw [show lowF ((x1, some v) :: hiF ms fl) m = (x1, some v) :: lowF (hiF ms fl) m from List.filter_cons_of_pos (by simpa using hx), lastD]
      cases (lowF (hiF ms fl) m).getLast? <;> rfl
/-- the keys that had something behind a moment, rising -/
def allK (ls : List Lt) (m : Int) : List Int := (srt (ksM ls)).filter fun k => (vaM (mkM ls k) m).isSome
theorem allK_mem {ls : List Lt} {m k : Int} : k ∈ allK ls m ↔ (vaM (mkM ls k) m).isSome = true := by
  unfold allK
  rw [List.mem_filter]
  refine ⟨fun h => h.2, fun h => ⟨(srt_perm _).mem_iff.mpr ?_, h⟩⟩
  by_cases c : k ∈ ksM ls
  · exact c
  · unfold mkM at h
    rw [mkL_not c] at h
    cases h
theorem allK_so (ls : List Lt) (m : Int) : (allK ls m).Pairwise (· ≤ ·) := (srt_sorted _).sublist List.filter_sublist
theorem allK_nd {ls : List Lt} (nd : (ksM ls).Nodup) (m : Int) : (allK ls m).Nodup := ((srt_perm _).nodup_iff.mpr nd).sublist List.filter_sublist
theorem allK_len (ls : List Lt) (m : Int) : (allK ls m).length ≤ ls.length := by
  have h1 := List.length_filter_le (fun k => (vaM (mkM ls k) m).isSome) (srt (ksM ls))
  rw [(srt_perm _).length_eq] at h1
  unfold ksM at h1
  rw [List.length_map] at h1
  exact h1
/-- the rows of a page: the keys with what they had -/
def rowK (ls : List Lt) (m : Int) (ks : List Int) : Kv := ks.map fun k => (k, (vaM (mkM ls k) m).getD 0)
/-- a table's rows, by key, are these -/
theorem rows_eq {ls : List Lt} {m : Int} {kv qs : Kv} (nd : (ksM ls).Nodup) (ndk : (ksP kv).Nodup) (hv : ∀ k, vaM (mkM ls k) m = getP kv k) (pm : qs.Perm kv) (so : qs.Pairwise fun x y => SrtO.lexB y x = false) : qs = rowK ls m (allK ls m) := by
  have hkeys : (ksP qs) = allK ls m := by
    refine sorted_uniq ?_ (allK_so ls m) ((List.perm_ext_iff_of_nodup ((pm.map _).nodup_iff.mpr ndk) (allK_nd nd m)).mpr fun k => ?_)
    · refine List.pairwise_map.mpr (so.imp fun {x y} h => ?_)
      have := SrtO.lexB_no.mp h
      omega
    · rw [allK_mem, hv, getP_isSome, decide_eq_true_eq]
      exact (ksP_perm pm).mem_iff
  have h2 : ∀ p ∈ qs, p = (p.1, (vaM (mkM ls p.1) m).getD 0) := fun p hp => by
    rw [hv, getP_some (v := p.2) ndk (pm.mem_iff.mp hp)]
    rfl
  unfold rowK
  rw [← hkeys]
  unfold ksP
  rw [List.map_map]
  conv => lhs; rw [← List.map_id qs]
  exact List.map_congr_left h2
end Z

set_option maxHeartbeats 4000000
/-! Z30: a range with one way out; pages by slots, in plain Lean. -/
namespace Z
open PySem PySem.Spec PyProof.Rows L2 LiI
theorem FOR.rangeJ {g : TG} {tb : TS} {D : Ends} {σ : L2.St} {H : Hp} {lo : Int} {n : Nat} (J : L2.St → Hp → Prop) (hJ : ∀ σ H, J σ H → D.nx σ H) (Pv : Nat → L2.St → Hp → Prop) (h0 : Pv 0 σ H)
    (hs : ∀ N : L2.St → Hp → Prop, (∀ σ' H', J σ' H' → N σ' H') → ∀ i σ H, i < n → Pv i σ H → g (.int (lo + i)) σ H fun σ2 H2 => tb { D with nx := Pv (i + 1), ct := Pv (i + 1), bk := N } σ2 H2) (hd : ∀ σ H, Pv n σ H → J σ H) : FOR (Itr lo n) g tb D σ H :=
  FOR.range Pv h0 (hs D.nx hJ) fun σ H p => hJ _ _ (hd σ H p)
/-- the keys with their places, by place, then by key -/
def PK (kv : Kv) : Kv := (kv.map fun p => (((plc p.1 : Nat) : Int), p.1)).mergeSort fun x y => !SrtO.lexB y x
theorem lex_tr {a b c : Int × Int} (h1 : (!SrtO.lexB b a) = true) (h2 : (!SrtO.lexB c b) = true) : (!SrtO.lexB c a) = true := by
  simp only [Bool.not_eq_true'] at *
  have h1 := SrtO.lexB_no.mp h1
  have h2 := SrtO.lexB_no.mp h2
  exact SrtO.lexB_no.mpr (by omega)
theorem lex_tot (a b : Int × Int) : ((!SrtO.lexB b a) || (!SrtO.lexB a b)) = true := by
  cases e1 : SrtO.lexB b a with
  | false => rfl
  | true =>
    have e1 := SrtO.lexB_iff.mp e1
    have : SrtO.lexB a b = false := SrtO.lexB_no.mpr (by omega)
    rw [this]
    rfl
theorem PK_perm (kv : Kv) : (PK kv).Perm (kv.map fun p => (((plc p.1 : Nat) : Int), p.1)) := List.mergeSort_perm _ _
theorem PK_so (kv : Kv) : (PK kv).Pairwise fun x y => SrtO.lexB y x = false := by
  have := List.pairwise_mergeSort (le := fun x y : Int × Int => !SrtO.lexB y x) (fun a b c => lex_tr) lex_tot (kv.map fun p => (((plc p.1 : Nat) : Int), p.1))
  exact this.imp fun h => by simpa using h
theorem lex_uniq {a b : Kv} (h1 : a.Pairwise fun x y => SrtO.lexB y x = false) (h2 : b.Pairwise fun x y => SrtO.lexB y x = false) (p : a.Perm b) : a = b :=
  List.Perm.eq_of_pairwise (fun x y _ _ h h' => by
    have h := SrtO.lexB_no.mp h
    have h' := SrtO.lexB_no.mp h'
    exact Prod.ext (by omega) (by omega)) h1 h2 p
/-- the rows of a stretch of places -/
def rwK (kv : Kv) (lo hi : Nat) : Kv := ((PK kv).filter fun x => decide ((lo : Int) ≤ x.1 ∧ x.1 < (hi : Int))).map fun x => (x.2, (getP kv x.2).getD 0)
theorem rwK_span {kv ps : Kv} {lo hi : Nat} (nd : (ksP kv).Nodup) (sr : SpanR kv lo hi ps) : ps = rwK kv lo hi := by
  have e1 : (ps.map fun p => (((plc p.1 : Nat) : Int), p.1)) = (PK kv).filter fun x => decide ((lo : Int) ≤ x.1 ∧ x.1 < (hi : Int)) := by
    refine lex_uniq ?_ ((PK_so kv).sublist List.filter_sublist) ?_
    · refine List.pairwise_map.mpr (sr.2.imp fun {x y} h => SrtO.lexB_no.mpr ?_)
      show ¬ (((plc y.1 : Nat) : Int) < ((plc x.1 : Nat) : Int) ∨ _)
      omega
    · refine ((sr.1.map _).trans ?_).trans ((PK_perm kv).filter _).symm
      rw [List.filter_map]
      refine List.Perm.of_eq (congrArg _ ?_)
      unfold spF
      refine List.filter_congr fun p _ => ?_
      show decide _ = decide (((lo : Nat) : Int) ≤ ((plc p.1 : Nat) : Int) ∧ ((plc p.1 : Nat) : Int) < ((hi : Nat) : Int))
      rw [decide_eq_decide]
      omega
  unfold rwK
  rw [← e1, List.map_map]
  conv => lhs; rw [← List.map_id ps]
  refine List.map_congr_left fun p hp => ?_
  have hm : p ∈ kv := (List.mem_filter.mp (sr.1.mem_iff.mp hp)).1
  show p = (p.1, (getP kv p.1).getD 0)
  rw [getP_some (v := p.2) nd hm]
  rfl
theorem PK_len (kv : Kv) : (PK kv).length = kv.length := by rw [(PK_perm kv).length_eq, List.length_map]
theorem rwK_len (kv : Kv) (lo hi : Nat) : (rwK kv lo hi).length ≤ kv.length := by
  unfold rwK
  rw [List.length_map, ← PK_len kv]
  exact List.length_filter_le _ _
/-- a page by slots: the rows, and the place reached, or nothing -/
def pgF (rw_ : Nat → Nat → Kv) (W e m : Nat) : Nat → Nat → Kv → Kv × Option Nat
  | 0, p, rs => (rs, if e ≤ p then none else some p)
  | f + 1, p, rs => if e ≤ p then (rs, none) else
    if m ≤ (rs ++ rw_ p (min ((p / W + 1) * W) e)).length then (rs ++ rw_ p (min ((p / W + 1) * W) e), if e ≤ (p / W + 1) * W then none else some ((p / W + 1) * W))
    else pgF rw_ W e m f ((p / W + 1) * W) (rs ++ rw_ p (min ((p / W + 1) * W) e))
theorem pgF_end {rw_ : Nat → Nat → Kv} {W e m f p : Nat} {rs : Kv} (h : e ≤ p) : pgF rw_ W e m f p rs = (rs, none) := by
  cases f with
  | zero => unfold pgF; rw [if_pos h]
  | succ f => unfold pgF; rw [if_pos h]
end Z

set_option maxHeartbeats 4000000
/-! Z41: several except clauses, each with its own name. -/
namespace L2
open PySem.Spec PySem PyProof.Rows
/-- what the clauses wish, one after the other -/
def wMA (K : PySem.W.Frag) (Wo : WX) (D : Ends) : List (Value × Nat × (Addr → Value → Option Addr → TS)) → WX
  | [] => Wo
  | (c, i, ts) :: r => wAs K c i ts (wMA K Wo D r) D
inductive HdA (X : Cx) : List ExceptHandler → List (Value × Nat × (Addr → Value → Option Addr → TS)) → Prop
  | nil : HdA X [] []
  | cons {x n : Str} {c : Value} {i : Nat} {ts : Addr → Value → Option Addr → TS} {b₀ : Stmt} {suite : List Stmt} {np pos' : Pos} {hds : List ExceptHandler} {l : List (Value × Nat × (Addr → Value → Option Addr → TS))} (hc : Names X x c) (hi : X.N[i]? = some n) (hln : X.env.kindOf n = some .local)
      (hsu : ∀ (a : Addr) (oe : Obj) (cls : Value) (d : Option Addr) (pn : List (Addr × Obj)), Zc cls d oe → (∃ vs, oe.data = .fields vs) → PSs (X.suite a ((a, oe) :: pn)) (b₀ :: suite) (ts a cls d)) (r : HdA X hds l) :
      HdA X (.ExceptHandler (some (.Name x np)) (some n) (b₀ :: suite) pos' :: hds) ((c, i, ts) :: l)
section
variable {X : Cx} {body : List Stmt} {h₀ : ExceptHandler} {hds : List ExceptHandler} {l : List (Value × Nat × (Addr → Value → Option Addr → TS))} {pos : Pos} {tb : WX → TS} {Wout : WX}
theorem ps_tryMA (hs : X.stack = X.env :: X.outer) (hf : X.env.frame = some X.env.locals) (hN : X.N.Nodup) (tk : Takes X Wout)
    (hb : ∀ (Wz : WX) (pq : List (Addr × Obj)) (xe : Value → Shared → Prop), Takes (X.tr pq xe) Wz → PassesOwn (model X.prog X.w) X.A X.env xe → PSs (X.tr pq xe) body (tb Wz))
    (hh : HdA X (h₀ :: hds) l) : PS X (.Try body (h₀ :: hds) [] [] pos) (fun Dz σ H => tb (wMA X.K Wout Dz l) Dz σ H) := by
  refine ⟨fun pz s σ H Dz I0 hh0 => ?_⟩
  have ok0 := I0.ok
  have hfr0 : X.A.frames = some (X.env :: X.outer) := by rw [ok0.frames, hs]
  refine wpAny_Try_except ?_
  refine wpAny_mono ((hb (wMA X.K Wout Dz l) (X.pn ++ pz) (fun ez s₁ => wpAny (model X.prog X.w) X.A (noteFrame ez X.env) (fun _ s₂ => wpAny (model X.prog X.w) X.A (setFlight ez none) (fun _ s₃ =>
    wpAny (model X.prog X.w) X.A (handleBy ez X.env (h₀ :: hds)) (SP X pz Dz) X.xe s₃) X.xe s₂) X.xe s₁) (fun uz s' xz => ?_) PassesOwn.looking).run [] s σ H Dz (I0.toTry _) hh0) (fun fz sx1 hq0 => ?_) (fun ez sx1 he0 => he0)
  · -- the catch
    obtain ⟨az, B, s0, pins', σ', H', clz, dz, rfl, Iv', nb0, uq, sk, na0, os0, ag0, wz0⟩ := xz
    have Iv : Inv X pz σ' H' s0 := Iv'.ofTry ok0
    have sk' : Sky B (X.env :: X.outer) az (Zc clz dz) X.env.locals s'.heap := by rw [← hs]; exact sk
    show wpAny (model X.prog X.w) X.A (noteFrame (.ref az) X.env) _ _ _
    refine Sky.land Zc.steady hfr0 hf sk' fun g3 fk3 uq3 => ?_
    have Iv3 : Inv X pz σ' H' { s' with heap := g3 } := Iv.landed nb0 fk3.1 (uq.trans uq3) os0 ag0
    obtain ⟨ob3, fv3, hp3, hc3, hf3⟩ := fk3.there
    have noF : ∀ {hh0 : Heap} {o : Obj} {fvz : Array Value}, hh0.FunFrames B (X.env :: X.outer) → hh0.get? az = some o → o.data = .fields fvz → az ∉ frs (X.env :: X.outer) := fun {hh0 o fvz} ffz ez ddz hmz => by
      obtain ⟨_, oz', ez', hnf⟩ := ffz.mem hmz
      rw [ez] at ez'; cases ez'
      exact hnf _ ddz
    have nfa := noF fk3.2.2.1 hp3 hf3
    have nLo : az ≠ X.env.locals := fun z => nfa (List.mem_filterMap.mpr ⟨X.env, List.mem_cons_self, by rw [hf, z]⟩)
    have nFs : az ∉ X.fs := fun hmz => by
      obtain ⟨ez, he0, qq0⟩ := List.mem_filterMap.mp hmz
      exact nfa (List.mem_filterMap.mpr ⟨ez, List.mem_cons_of_mem _ he0, qq0⟩)
    have Sv3 := Iv3.suite hp3 hf3 na0 nLo nFs
    have go0 : ∀ {hx' : List ExceptHandler} {lx' : List (Value × Nat × (Addr → Value → Option Addr → TS))}, HdA X hx' lx' → wMA X.K Wout Dz lx' clz dz σ' H' →
        wpAny (model X.prog X.w) X.A (handleBy (.ref az) X.env hx') (SP X pz Dz) X.xe { s' with heap := g3 } := by
      intro hx' lx' hkz
      induction hkz with
      | nil =>
        intro wz0
        refine wpAny_handleBy_nil ?_
        obtain ⟨kz1, kz2, kz3, obz, fvz, Tz, oTz, tz', he0, hz0, hd0, hz1, hrz⟩ := id fk3
        unfold PySem.passOn
        refine wpAny_bind (wpAny_field he0 hd0 hz1 ?_)
        rw [if_neg (show ¬ ((Value.ref Tz == Value.none) = true) from by simp)]
        have fin0 : wpAny (model X.prog X.w) X.A (setFlight (.ref az) X.env.frame) (fun _ s4 => wpAny (model X.prog X.w) X.A (throw (.ref az) : Sem Flow) (SP X pz Dz) X.xe s4) X.xe { s' with heap := g3 } := by
          rw [hf]
          refine HandSPX.setFlight_upZ fk3 fun g4 hgh4 uq4 => wpAny_throw (tk _ _ ?_)
          exact ⟨az, B, s0, pz, σ', H', clz, dz, rfl, Iv, nb0, (uq.trans uq3).trans uq4, .inr (.inr (by rw [hs]; exact hgh4)), na0, os0, ag0, wz0⟩
        first
          | exact wpAny_bind (wpAny_pure (wpAny_bind fin0))
          | exact wpAny_bind fin0
      | @cons x n c i ts b₀ suite np pos' hx2 lx2 hc hi hln hsu r ihz =>
        intro wz0
        obtain ⟨bz, hbz, hye, hnn0⟩ := wz0
        refine wpAny_handleBy_cons (codeAny_handlers_test ?_) (by intro qq0; cases qq0)
        have Lt0 : PySem.W.Looks (model X.prog X.w) g3 (typeOf (.ref az)) clz := fun A Qz Ez s k qq0 => wpAny_typeOf_ref (k _ _ hp3) (by rw [hc3.1]; exact qq0)
        have Lm0 := PySem.W.exm_one (M := model X.prog X.w) (Iv3.kIn) Lt0 hbz
        have tst0 : ∀ {Qz : Value → Shared → Prop} {Ez : Value → Shared → Prop}, Qz c { s' with heap := g3 } → wpAny (model X.prog X.w) (X.A.mark (some (.ref az))) (eval (.Name x np) X.env) Qz Ez { s' with heap := g3 } := fun {Qz Ez} qq0 => by
          obtain ⟨hgz, hdg, hmz | ⟨hmz, hvz, hnx⟩⟩ := hc
          · exact ld_glob (X := X.suite az ((az, ob3) :: (X.pn ++ pz))) Sv3 hgz hmz qq0 hdg
          · exact ld_blt (X := X.suite az ((az, ob3) :: (X.pn ++ pz))) Sv3 hgz hmz hvz qq0 hnx hdg
        refine tst0 (Lm0.here ?_)
        cases bz with
        | true =>
          refine (codeAny_handlers_suite_as ?_)
          refine HandSPX.lands_againZ fk3 fun g4 fk4 uq4 => ?_
          have Iv4 : Inv X pz σ' H' { s' with heap := g4 } := Iv.landed nb0 fk4.1 ((uq.trans uq3).trans uq4) os0 ag0
          obtain ⟨ob4, fv4, hp4, hc4, hf4⟩ := fk4.there
          have Sv4 := Iv4.suite hp4 hf4 na0 nLo nFs
          refine store_ok (X := X.suite az ((az, ob4) :: (X.pn ++ pz))) (v := .ref az) Sv4 hN hi (.inl hln) rfl (fun s5 Sv5 => ?_) (.inr hln)
          refine wpAny_mono ((hsu az ob4 clz dz (X.pn ++ pz) hc4 ⟨_, hf4⟩).run [] s5 _ H' _ Sv5 (hye rfl az na0)) (fun fz sy hq0 => ?_) (fun _ _ z => False.elim z)
          have endz : ∀ {σz : St} {Hz : Hp} {Qz : Shared → Prop}, Inv (X.suite az ((az, ob4) :: (X.pn ++ pz))) [] σz Hz sy → (∀ sz, Inv X pz (σz.set i none) Hz sz → Qz sz) →
              wpAny (model X.prog X.w) X.A (do bindName X.env n .none; unbindBehindTheSuite X.env n pos') (fun _ sz => Qz sz) X.xe sy := fun {σz Hz Qz} Sv6 hqz => gone_ok (Sv6.unsuite ok0) hN hi hln hqz
          cases fz with
          | next =>
            obtain ⟨σz, Hz, Sv6, qz⟩ := hq0
            exact endz Sv6 fun sz Iv7 => ⟨_, _, Iv7, qz⟩
          | brk =>
            obtain ⟨σz, Hz, Sv6, qz⟩ := hq0
            exact endz Sv6 fun sz Iv7 => ⟨_, _, Iv7, qz⟩
          | cont =>
            obtain ⟨σz, Hz, Sv6, qz⟩ := hq0
            exact endz Sv6 fun sz Iv7 => ⟨_, _, Iv7, qz⟩
          | ret uz =>
            obtain ⟨vz, σz, Hz, Sv6, rz, qz⟩ := hq0
            exact endz Sv6 fun sz Iv7 => ⟨_, _, _, Iv7, rz, qz⟩
        | false =>
          show wpAny _ X.A (handleBy (.ref az) X.env hx2) _ _ _
          exact ihz (hnn0 rfl)
    exact go0 hh wz0
  · cases fz with
    | next =>
      obtain ⟨σ', H', Iv', qq0⟩ := hq0
      exact wpAny_execs_nil ⟨σ', H', Iv'.ofTry ok0, qq0⟩
    | brk =>
      obtain ⟨σ', H', Iv', qq0⟩ := hq0
      exact ⟨σ', H', Iv'.ofTry ok0, qq0⟩
    | cont =>
      obtain ⟨σ', H', Iv', qq0⟩ := hq0
      exact ⟨σ', H', Iv'.ofTry ok0, qq0⟩
    | ret uz =>
      obtain ⟨v, σ', H', Iv', r, qq0⟩ := hq0
      exact ⟨v, σ', H', Iv'.ofTry ok0, r, qq0⟩
end
end L2
namespace Z
open PySem PySem.Spec PyProof.Rows L2
def tTryM (K : PySem.W.Frag) (l : List (Value × Nat × (Addr → Value → Option Addr → TS))) (tb : WX → TS) (Wout : WX) : TS := fun D σ H => tb (wMA K Wout D l) D σ H
section
variable {X : Cx} {body : List Stmt} {h₀ : ExceptHandler} {hds : List ExceptHandler} {l : List (Value × Nat × (Addr → Value → Option Addr → TS))} {pos : Pos} {tb : WX → TS} {Wout : WX}
theorem ps_tryMZ (hs : X.stack = X.env :: X.outer) (hf : X.env.frame = some X.env.locals) (hN : X.N.Nodup) (tk : Takes X Wout)
    (hb : ∀ (W : WX) (pn : List (Addr × Obj)) (xe : Value → Shared → Prop), Takes (X.tr pn xe) W → PassesOwn (model X.prog X.w) X.A X.env xe → PSs (X.tr pn xe) body (tb W))
    (hh : HdA X (h₀ :: hds) l) : PS X (.Try body (h₀ :: hds) [] [] pos) (tTryM X.K l tb Wout) := ps_tryMA hs hf hN tk hb hh
end
section
variable {K : PySem.W.Frag} {c c2 : Value} {i i2 : Nat} {ts ts2 : Addr → Value → Option Addr → TS} {tb : WX → TS} {Wout : WX} {D : Ends} {σ : L2.St} {H : Hp}
/-- two clauses: each wishes as one does -/
theorem g_tryM2 (h : tb (wAs K c i ts (wAs K c2 i2 ts2 Wout D) D) D σ H) : tTryM K [(c, i, ts), (c2, i2, ts2)] tb Wout D σ H := h
end
end Z

open PySem L2 Z
local macro_rules | `(tactic| wtm_at "side") => `(tactic| first | with_reducible assumption | omega | (show _ ∨ _; omega) | (show _ ∧ _; omega) | decide | with_reducible rfl | exact ⟨by decide, by decide, by decide⟩ | (refine ⟨?_, ?_, ?_⟩ <;> first | decide | omega | with_reducible assumption) | (refine ⟨?_, ?_⟩ <;> first | decide | omega | with_reducible assumption))
local macro_rules | `(tactic| wtm_at "mem") => `(tactic| first | with_reducible exact List.mem_cons_self .. | (with_reducible refine List.mem_cons_of_mem _ ?_; wtm_at "mem") | (with_reducible refine List.mem_append_left _ ?_; wtm_at "mem") | (with_reducible refine List.mem_append_right _ ?_; wtm_at "mem") | with_reducible assumption)
local macro_rules | `(tactic| wtm_at "rd") => `(tactic| first | with_reducible assumption | (with_reducible refine' W.get ?wtW ?wtQ; (case wtW => with_reducible assumption); (case wtQ => wtm_at "mem")) | (with_reducible refine' W.rd ?wtW ?wtQ; (case wtW => with_reducible assumption); (case wtQ => wtm_at "rd")) | (with_reducible refine' Z.Same.rd ?wtW ?wtQ; (case wtW => with_reducible assumption); (case wtQ => wtm_at "rd")))
local macro_rules | `(tactic| wtm_at "sq") => `(tactic| first | with_reducible assumption | (with_reducible refine SqL.of ?_; wtm_at "rd") | (with_reducible refine SqT.of ?_; wtm_at "rd") | (with_reducible refine' W.sq ?wtW ?wtQ; (case wtW => with_reducible assumption); (case wtQ => wtm_at "sq")) | (with_reducible refine' Z.Same.sq ?wtW ?wtQ; (case wtW => with_reducible assumption); (case wtQ => wtm_at "sq")) | (with_reducible refine' W.tq ?wtW ?wtQ; (case wtW => with_reducible assumption); (case wtQ => wtm_at "sq")) | (with_reducible refine' Z.Same.tq ?wtW ?wtQ; (case wtW => with_reducible assumption); (case wtQ => wtm_at "sq")))
local macro_rules | `(tactic| wtm_at "s0") => `(tactic| first
  | with_reducible refine g_seq ?_
  | with_reducible refine g_asg ?_
  | with_reducible refine g_name ?_
  | ((with_reducible refine' g_var ?gvE ?gvH); (case gvE => exact rfl))
  | with_reducible refine g_c ?_
  | with_reducible refine g_op ?_
  | with_reducible refine r_I0 ?_
  | ((with_reducible refine r_I ?gvE ?gvH); (case gvE => wtm_at "side"))
  | with_reducible refine g_test ?_
  | with_reducible refine g_tst ?_
  | with_reducible refine g_tB ?_
  | with_reducible refine r_eqI ?_
  | with_reducible refine r_neI ?_
  | with_reducible refine g_cons ?_
  | with_reducible refine g_nil ?_
  | with_reducible refine g_cb ?_
  | with_reducible refine g_call ?_
  | with_reducible refine g_ret ?_
  | with_reducible refine g_retN ?_
  | with_reducible refine g_next ?_
  | with_reducible refine g_un ?_
  | with_reducible refine r_U ?_
  | with_reducible refine g_chain ?_
  | with_reducible refine g_and ?_
  | with_reducible refine g_or ?_
  | with_reducible refine g_not ?_
  | with_reducible refine g_andV ?_
  | with_reducible refine g_orV ?_
  | with_reducible refine g_notV ?_
  | with_reducible refine g_if ?_
  | with_reducible refine brT ?_
  | with_reducible refine brF ?_
  | with_reducible refine brNT ?_
  | with_reducible refine brNF ?_
  | with_reducible refine br_rn ?_
  | with_reducible refine br_in ?_
  | with_reducible refine br_sn ?_
  | with_reducible refine br_nn ?_
  | with_reducible refine brN_rn ?_
  | with_reducible refine brN_in ?_
  | with_reducible refine brN_sn ?_
  | with_reducible refine brN_nn ?_
  | ((with_reducible refine br_pt ?gvE ?gvH); (case gvE => first | with_reducible assumption | omega | with_reducible rfl | (simp only [List.length_cons, List.length_nil]; done) | (simp only [List.length_cons, List.length_nil]; omega) | decide))
  | ((with_reducible refine br_pf ?gvE ?gvH); (case gvE => first | with_reducible assumption | omega | (simp only [List.length_cons, List.length_nil]; done) | (simp only [List.length_cons, List.length_nil]; omega) | decide))
  | ((with_reducible refine br_nt ?gvE ?gvH); (case gvE => first | with_reducible assumption | omega | (simp only [List.length_cons, List.length_nil]; done) | (simp only [List.length_cons, List.length_nil]; omega) | decide))
  | ((with_reducible refine br_nf ?gvE ?gvH); (case gvE => first | with_reducible assumption | omega | with_reducible rfl | (simp only [List.length_cons, List.length_nil]; done) | (simp only [List.length_cons, List.length_nil]; omega) | decide))
  | with_reducible refine isi_ii ?_
  | with_reducible refine isi_ib ?_
  | with_reducible refine isi_bi ?_
  | with_reducible refine isi_bb ?_
  | with_reducible refine isi_ni ?_
  | with_reducible refine isi_si ?_
  | with_reducible refine r_tup ?_
  | with_reducible refine r_lst ?_
  | with_reducible refine g_lc ?_
  | with_reducible refine g_for ?_
  | with_reducible refine g_rng1 ?_
  | with_reducible refine g_rng2 ?_
  | with_reducible refine g_ilist ?_
  | with_reducible refine g_itup ?_
  | ((with_reducible refine r_rng1 ?gvE ?gvH); (case gvE => wtm_at "side"))
  | ((with_reducible refine r_rng2 ?gvE ?gvH); (case gvE => wtm_at "side"))
  | with_reducible refine g_sl ?_
  | with_reducible refine g_nopart ?_
  | with_reducible refine g_part ?_
  | with_reducible refine r_part ?_
  | with_reducible refine g_fld ?_
  | with_reducible refine g_sfld ?_
  | with_reducible refine g_meth ?_
  | with_reducible refine g_make ?_
  | with_reducible refine g_din ?_
  | with_reducible refine g_dni ?_
  | with_reducible refine g_dge ?_
  | with_reducible refine g_dpu ?_
  | with_reducible refine r_isNo ?_
  | with_reducible refine r_notNo ?_
  | ((with_reducible refine' r_t0 ?gvE ?gvH); (case gvE => wtm_at "sq"))
  | ((with_reducible refine' r_t1 ?gvE ?gvH); (case gvE => wtm_at "sq"))
  | ((with_reducible refine' r_t2 ?gvE ?gvH); (case gvE => wtm_at "sq"))
  | ((with_reducible refine' g_tup2 ?gvE ?gvN ?gvH); (case gvE => wtm_at "sq"); (case gvN => rfl))
  | with_reducible refine g_dropE ?_
  | ((with_reducible refine' g_aug ?gvE ?gvH); (case gvE => exact rfl))
  | with_reducible refine g_ip ?_
  | with_reducible refine g_whb ?_
  | with_reducible refine g_yes ?_
  | with_reducible refine g_brk ?_
  | with_reducible refine g_cont ?_
  | with_reducible refine r_isB ?_
  | with_reducible refine r_notB ?_
  | with_reducible refine r_eqB ?_
  | with_reducible refine r_neB ?_
  | with_reducible refine r_eqS ?_
  | with_reducible refine r_neS ?_)
local macro_rules | `(tactic| wtm_at "s") => `(tactic| first | wtm_at "s0" | with_reducible refine g_ifS ?_)
/-! as far as it goes by itself; g0: up to the next if; br: either way -/
local macro_rules | `(tactic| wtm_at "g0") => `(tactic| repeat (wtm_at "s0"))
local macro_rules | `(tactic| wtm_at "br") => `(tactic| with_reducible first | refine br ?_ ?_ | refine brN ?_ ?_ | refine brB ?_ ?_ | refine brBN ?_ ?_)
local macro_rules | `(tactic| wtm_at "go") => `(tactic| repeat (wtm_at "s"))

namespace Toy
open PySem L2 Z
structure Ad where
  a_Leaves_init : Addr
  d_Leaves_init : FuncData
  a_Makes_init : Addr
  d_Makes_init : FuncData
  a_Bank_init : Addr
  d_Bank_init : FuncData
  a_Slots_init : Addr
  d_Slots_init : FuncData
  a_House_init : Addr
  d_House_init : FuncData
  a_House_held : Addr
  d_House_held : FuncData
  a_House_hold : Addr
  d_House_hold : FuncData
  a_House_let_go : Addr
  d_House_let_go : FuncData
  a_Makes_add : Addr
  d_Makes_add : FuncData
  a_House_done : Addr
  d_House_done : FuncData
  a_Leaves_leaf_at : Addr
  d_Leaves_leaf_at : FuncData
  a_Leaves_has : Addr
  d_Leaves_has : FuncData
  a_Leaves_add : Addr
  d_Leaves_add : FuncData
  a_mark_of : Addr
  d_mark_of : FuncData
  a_slot_of : Addr
  d_slot_of : FuncData
  a_Bank_lot_of : Addr
  d_Bank_lot_of : FuncData
  a_Slots_home : Addr
  d_Slots_home : FuncData
  a_Slots_has : Addr
  d_Slots_has : FuncData
  a_Slots_begin_row : Addr
  d_Slots_begin_row : FuncData
  a_Slots_move_next : Addr
  d_Slots_move_next : FuncData
  a_Slots_put : Addr
  d_Slots_put : FuncData
  a_House_put : Addr
  d_House_put : FuncData
  a_needed : Addr
  d_needed : FuncData
  a_Makes_thrown : Addr
  d_Makes_thrown : FuncData
  a_House_sweep : Addr
  d_House_sweep : FuncData
  a__law_cell_at : Addr
  d__law_cell_at : FuncData
  a_Leaves_join_at : Addr
  d_Leaves_join_at : FuncData
  a_Leaves_discard : Addr
  d_Leaves_discard : FuncData
  a_Slots_sure : Addr
  d_Slots_sure : FuncData
  a_Slots_drop : Addr
  d_Slots_drop : FuncData
  a_House_drop : Addr
  d_House_drop : FuncData
  a__law_drawn : Addr
  d__law_drawn : FuncData
  a__law_key : Addr
  d__law_key : FuncData
  a__law_deed : Addr
  d__law_deed : FuncData
  a_Down_holds : Addr
  d_Down_holds : FuncData
  a_NoMoment_init : Addr
  d_NoMoment_init : FuncData
  a_TooOld_init : Addr
  d_TooOld_init : FuncData
  a_House_ask_moment : Addr
  d_House_ask_moment : FuncData
  a_Makes_value_at : Addr
  d_Makes_value_at : FuncData
  a_Makes_all_at : Addr
  d_Makes_all_at : FuncData
  a_Up_holds : Addr
  d_Up_holds : FuncData
  a_Token_init : Addr
  d_Token_init : FuncData
  a_is_whole : Addr
  d_is_whole : FuncData
  a_bounded : Addr
  d_bounded : FuncData
  a_bound_or_none : Addr
  d_bound_or_none : FuncData
  a_in_order : Addr
  d_in_order : FuncData
  a_Down_init : Addr
  d_Down_init : FuncData
  a_Up_init : Addr
  d_Up_init : FuncData
  a_behind : Addr
  d_behind : FuncData
  a_House_page_at : Addr
  d_House_page_at : FuncData
  a__law_refused : Addr
  d__law_refused : FuncData
  a__law_token : Addr
  d__law_token : FuncData
  a__law_held : Addr
  d__law_held : FuncData
  a__law_due : Addr
  d__law_due : FuncData
  a__law_next : Addr
  d__law_next : FuncData
  a__law_page : Addr
  d__law_page : FuncData
  a__law_walked : Addr
  d__law_walked : FuncData
  a_law : Addr
  d_law : FuncData
  c_WalkError : Addr
  c_NoKey : Addr
  c_Twice : Addr
  c_TooOld : Addr
  c_NoMoment : Addr
  c_NoToken : Addr
  c_Leaves : Addr
  c_Makes : Addr
  c_Bank : Addr
  c_Slots : Addr
  c_Token : Addr
  c_Up : Addr
  c_Down : Addr
  c_House : Addr
  t_MOST_KEYS : Tok
  t_LEAST_OF_TWO : Tok
  t_PLACES : Tok
  t_LEAST_SIZE : Tok
  t_MOST_SIZE : Tok
structure Txt (K : PySem.W.Frag) (mg : Str → Option Value) (D : Ad) : Prop where
  F_Leaves_init : Fun K "__init__" "Leaves.__init__" s_Leaves_init D.a_Leaves_init D.d_Leaves_init
  b_Leaves_init : Binds K D.d_Leaves_init ["self"] []
  F_Makes_init : Fun K "__init__" "Makes.__init__" s_Makes_init D.a_Makes_init D.d_Makes_init
  b_Makes_init : Binds K D.d_Makes_init ["self"] []
  F_Bank_init : Fun K "__init__" "Bank.__init__" s_Bank_init D.a_Bank_init D.d_Bank_init
  b_Bank_init : Binds K D.d_Bank_init ["self", "size"] []
  F_Slots_init : Fun K "__init__" "Slots.__init__" s_Slots_init D.a_Slots_init D.d_Slots_init
  b_Slots_init : Binds K D.d_Slots_init ["self"] []
  F_House_init : Fun K "__init__" "House.__init__" s_House_init D.a_House_init D.d_House_init
  b_House_init : Binds K D.d_House_init ["self"] []
  F_House_held : Fun K "held" "House.held" s_House_held D.a_House_held D.d_House_held
  b_House_held : Binds K D.d_House_held ["self"] []
  F_House_hold : Fun K "hold" "House.hold" s_House_hold D.a_House_hold D.d_House_hold
  b_House_hold : Binds K D.d_House_hold ["self"] []
  F_House_let_go : Fun K "let_go" "House.let_go" s_House_let_go D.a_House_let_go D.d_House_let_go
  b_House_let_go : Binds K D.d_House_let_go ["self", "moment"] []
  F_Makes_add : Fun K "add" "Makes.add" s_Makes_add D.a_Makes_add D.d_Makes_add
  b_Makes_add : Binds K D.d_Makes_add ["self", "key", "moment", "value"] []
  F_House_done : Fun K "done" "House.done" s_House_done D.a_House_done D.d_House_done
  b_House_done : Binds K D.d_House_done ["self", "row", "key", "value"] []
  F_Leaves_leaf_at : Fun K "leaf_at" "Leaves.leaf_at" s_Leaves_leaf_at D.a_Leaves_leaf_at D.d_Leaves_leaf_at
  b_Leaves_leaf_at : Binds K D.d_Leaves_leaf_at ["self", "key"] []
  F_Leaves_has : Fun K "has" "Leaves.has" s_Leaves_has D.a_Leaves_has D.d_Leaves_has
  b_Leaves_has : Binds K D.d_Leaves_has ["self", "key"] []
  F_Leaves_add : Fun K "add" "Leaves.add" s_Leaves_add D.a_Leaves_add D.d_Leaves_add
  b_Leaves_add : Binds K D.d_Leaves_add ["self", "key"] []
  F_mark_of : Fun K "mark_of" "mark_of" s_mark_of D.a_mark_of D.d_mark_of
  b_mark_of : Binds K D.d_mark_of ["key"] []
  g_mark_of : mg "mark_of" = some (.ref D.a_mark_of)
  F_slot_of : Fun K "slot_of" "slot_of" s_slot_of D.a_slot_of D.d_slot_of
  b_slot_of : Binds K D.d_slot_of ["key", "size"] []
  g_slot_of : mg "slot_of" = some (.ref D.a_slot_of)
  F_Bank_lot_of : Fun K "lot_of" "Bank.lot_of" s_Bank_lot_of D.a_Bank_lot_of D.d_Bank_lot_of
  b_Bank_lot_of : Binds K D.d_Bank_lot_of ["self", "key"] []
  F_Slots_home : Fun K "home" "Slots.home" s_Slots_home D.a_Slots_home D.d_Slots_home
  b_Slots_home : Binds K D.d_Slots_home ["self", "key"] []
  F_Slots_has : Fun K "has" "Slots.has" s_Slots_has D.a_Slots_has D.d_Slots_has
  b_Slots_has : Binds K D.d_Slots_has ["self", "key"] []
  F_Slots_begin_row : Fun K "begin_row" "Slots.begin_row" s_Slots_begin_row D.a_Slots_begin_row D.d_Slots_begin_row
  b_Slots_begin_row : Binds K D.d_Slots_begin_row ["self"] []
  F_Slots_move_next : Fun K "move_next" "Slots.move_next" s_Slots_move_next D.a_Slots_move_next D.d_Slots_move_next
  b_Slots_move_next : Binds K D.d_Slots_move_next ["self"] []
  F_Slots_put : Fun K "put" "Slots.put" s_Slots_put D.a_Slots_put D.d_Slots_put
  b_Slots_put : Binds K D.d_Slots_put ["self", "key", "value"] []
  F_House_put : Fun K "put" "House.put" s_House_put D.a_House_put D.d_House_put
  b_House_put : Binds K D.d_House_put ["self", "key", "value"] []
  F_needed : Fun K "needed" "needed" s_needed D.a_needed D.d_needed
  b_needed : Binds K D.d_needed ["makes", "floor"] []
  g_needed : mg "needed" = some (.ref D.a_needed)
  F_Makes_thrown : Fun K "thrown" "Makes.thrown" s_Makes_thrown D.a_Makes_thrown D.d_Makes_thrown
  b_Makes_thrown : Binds K D.d_Makes_thrown ["self", "floor"] []
  F_House_sweep : Fun K "sweep" "House.sweep" s_House_sweep D.a_House_sweep D.d_House_sweep
  b_House_sweep : Binds K D.d_House_sweep ["self"] []
  F__law_cell_at : Fun K "_law_cell_at" "_law_cell_at" s__law_cell_at D.a__law_cell_at D.d__law_cell_at
  b__law_cell_at : Binds K D.d__law_cell_at ["_law_script", "_law_k"] []
  g__law_cell_at : mg "_law_cell_at" = some (.ref D.a__law_cell_at)
  F_Leaves_join_at : Fun K "join_at" "Leaves.join_at" s_Leaves_join_at D.a_Leaves_join_at D.d_Leaves_join_at
  b_Leaves_join_at : Binds K D.d_Leaves_join_at ["self", "at"] []
  F_Leaves_discard : Fun K "discard" "Leaves.discard" s_Leaves_discard D.a_Leaves_discard D.d_Leaves_discard
  b_Leaves_discard : Binds K D.d_Leaves_discard ["self", "key"] []
  F_Slots_sure : Fun K "sure" "Slots.sure" s_Slots_sure D.a_Slots_sure D.d_Slots_sure
  b_Slots_sure : Binds K D.d_Slots_sure ["self", "key"] []
  F_Slots_drop : Fun K "drop" "Slots.drop" s_Slots_drop D.a_Slots_drop D.d_Slots_drop
  b_Slots_drop : Binds K D.d_Slots_drop ["self", "key"] []
  F_House_drop : Fun K "drop" "House.drop" s_House_drop D.a_House_drop D.d_House_drop
  b_House_drop : Binds K D.d_House_drop ["self", "key"] []
  F__law_drawn : Fun K "_law_drawn" "_law_drawn" s__law_drawn D.a__law_drawn D.d__law_drawn
  b__law_drawn : Binds K D.d__law_drawn ["_law_cell", "_law_k"] []
  g__law_drawn : mg "_law_drawn" = some (.ref D.a__law_drawn)
  F__law_key : Fun K "_law_key" "_law_key" s__law_key D.a__law_key D.d__law_key
  b__law_key : Binds K D.d__law_key ["_law_cell"] []
  g__law_key : mg "_law_key" = some (.ref D.a__law_key)
  F__law_deed : Fun K "_law_deed" "_law_deed" s__law_deed D.a__law_deed D.d__law_deed
  b__law_deed : Binds K D.d__law_deed ["_law_house", "_law_plain", "_law_cell", "_law_calm"] []
  g__law_deed : mg "_law_deed" = some (.ref D.a__law_deed)
  F_Down_holds : Fun K "holds" "Down.holds" s_Down_holds D.a_Down_holds D.d_Down_holds
  b_Down_holds : Binds K D.d_Down_holds ["self", "key"] []
  F_NoMoment_init : Fun K "__init__" "NoMoment.__init__" s_NoMoment_init D.a_NoMoment_init D.d_NoMoment_init
  b_NoMoment_init : Binds K D.d_NoMoment_init ["self", "moment"] []
  F_TooOld_init : Fun K "__init__" "TooOld.__init__" s_TooOld_init D.a_TooOld_init D.d_TooOld_init
  b_TooOld_init : Binds K D.d_TooOld_init ["self", "moment"] []
  F_House_ask_moment : Fun K "ask_moment" "House.ask_moment" s_House_ask_moment D.a_House_ask_moment D.d_House_ask_moment
  b_House_ask_moment : Binds K D.d_House_ask_moment ["self", "moment"] []
  F_Makes_value_at : Fun K "value_at" "Makes.value_at" s_Makes_value_at D.a_Makes_value_at D.d_Makes_value_at
  b_Makes_value_at : Binds K D.d_Makes_value_at ["self", "key", "moment"] []
  F_Makes_all_at : Fun K "all_at" "Makes.all_at" s_Makes_all_at D.a_Makes_all_at D.d_Makes_all_at
  b_Makes_all_at : Binds K D.d_Makes_all_at ["self", "moment"] []
  F_Up_holds : Fun K "holds" "Up.holds" s_Up_holds D.a_Up_holds D.d_Up_holds
  b_Up_holds : Binds K D.d_Up_holds ["self", "key"] []
  F_Token_init : Fun K "__init__" "Token.__init__" s_Token_init D.a_Token_init D.d_Token_init
  b_Token_init : Binds K D.d_Token_init ["self", "at", "end"] []
  F_is_whole : Fun K "is_whole" "is_whole" s_is_whole D.a_is_whole D.d_is_whole
  b_is_whole : Binds K D.d_is_whole ["thing"] []
  g_is_whole : mg "is_whole" = some (.ref D.a_is_whole)
  F_bounded : Fun K "bounded" "bounded" s_bounded D.a_bounded D.d_bounded
  b_bounded : Binds K D.d_bounded ["number", "most"] []
  g_bounded : mg "bounded" = some (.ref D.a_bounded)
  F_bound_or_none : Fun K "bound_or_none" "bound_or_none" s_bound_or_none D.a_bound_or_none D.d_bound_or_none
  b_bound_or_none : Binds K D.d_bound_or_none ["number"] []
  g_bound_or_none : mg "bound_or_none" = some (.ref D.a_bound_or_none)
  F_in_order : Fun K "in_order" "in_order" s_in_order D.a_in_order D.d_in_order
  b_in_order : Binds K D.d_in_order ["low", "high"] []
  g_in_order : mg "in_order" = some (.ref D.a_in_order)
  F_Down_init : FunD K "__init__" "Down.__init__" (defArgs s_Down_init) (defBody s_Down_init) (defScope s_Down_init) [.non, .int 0] [] D.a_Down_init D.d_Down_init
  b_Down_init : Binds K D.d_Down_init ["self", "at", "end"] []
  b_Down_init_1 : ∃ ds, Vals [.int 0] ds ∧ Binds K D.d_Down_init ["self", "at", "end"] ds
  b_Down_init_2 : ∃ ds, Vals [.non, .int 0] ds ∧ Binds K D.d_Down_init ["self", "at", "end"] ds
  F_Up_init : FunD K "__init__" "Up.__init__" (defArgs s_Up_init) (defBody s_Up_init) (defScope s_Up_init) [.int 0, .non] [] D.a_Up_init D.d_Up_init
  b_Up_init : Binds K D.d_Up_init ["self", "at", "end"] []
  b_Up_init_1 : ∃ ds, Vals [.non] ds ∧ Binds K D.d_Up_init ["self", "at", "end"] ds
  b_Up_init_2 : ∃ ds, Vals [.int 0, .non] ds ∧ Binds K D.d_Up_init ["self", "at", "end"] ds
  F_behind : Fun K "behind" "behind" s_behind D.a_behind D.d_behind
  b_behind : Binds K D.d_behind ["token", "key"] []
  g_behind : mg "behind" = some (.ref D.a_behind)
  F_House_page_at : FunD K "page_at" "House.page_at" (defArgs s_House_page_at) (defBody s_House_page_at) (defScope s_House_page_at) [.int 10] [] D.a_House_page_at D.d_House_page_at
  b_House_page_at : Binds K D.d_House_page_at ["self", "moment", "token", "many"] []
  b_House_page_at_1 : ∃ ds, Vals [.int 10] ds ∧ Binds K D.d_House_page_at ["self", "moment", "token", "many"] ds
  F__law_refused : Fun K "_law_refused" "_law_refused" s__law_refused D.a__law_refused D.d__law_refused
  b__law_refused : Binds K D.d__law_refused ["_law_house", "_law_moment", "_law_token_here"] []
  g__law_refused : mg "_law_refused" = some (.ref D.a__law_refused)
  F__law_token : Fun K "_law_token" "_law_token" s__law_token D.a__law_token D.d__law_token
  b__law_token : Binds K D.d__law_token ["_law_cell", "_law_plain"] []
  g__law_token : mg "_law_token" = some (.ref D.a__law_token)
  F__law_held : Fun K "_law_held" "_law_held" s__law_held D.a__law_held D.d__law_held
  b__law_held : Binds K D.d__law_held ["_law_token_here", "_law_key_here"] []
  g__law_held : mg "_law_held" = some (.ref D.a__law_held)
  F__law_due : Fun K "_law_due" "_law_due" s__law_due D.a__law_due D.d__law_due
  b__law_due : Binds K D.d__law_due ["_law_token_here", "_law_plain"] []
  g__law_due : mg "_law_due" = some (.ref D.a__law_due)
  F__law_next : Fun K "_law_next" "_law_next" s__law_next D.a__law_next D.d__law_next
  b__law_next : Binds K D.d__law_next ["_law_token_here", "_law_found", "_law_last"] []
  g__law_next : mg "_law_next" = some (.ref D.a__law_next)
  F__law_page : Fun K "_law_page" "_law_page" s__law_page D.a__law_page D.d__law_page
  b__law_page : Binds K D.d__law_page ["_law_house", "_law_moment", "_law_token_here", "_law_many"] []
  g__law_page : mg "_law_page" = some (.ref D.a__law_page)
  F__law_walked : Fun K "_law_walked" "_law_walked" s__law_walked D.a__law_walked D.d__law_walked
  b__law_walked : Binds K D.d__law_walked ["_law_house", "_law_plain", "_law_moment", "_law_token_here", "_law_cells", "_law_way"] []
  g__law_walked : mg "_law_walked" = some (.ref D.a__law_walked)
  F_law : Fun K "law" "law" s_law D.a_law D.d_law
  b_law : Binds K D.d_law ["_law_script"] []
  g_law : mg "law" = some (.ref D.a_law)
  g_WalkError : mg "WalkError" = some (.ref D.c_WalkError)
  g_NoKey : mg "NoKey" = some (.ref D.c_NoKey)
  g_Twice : mg "Twice" = some (.ref D.c_Twice)
  g_TooOld : mg "TooOld" = some (.ref D.c_TooOld)
  xc_TooOld : XC K D.c_TooOld
  sv_TooOld : PySem.W.subIn K (.ref D.c_TooOld) (.type "ValueError") = some true
  iC_TooOld : PySem.W.findIn K (.ref D.c_TooOld) "__init__" = some (some (.ref D.a_TooOld_init))
  tI_TooOld : PySem.W.typeIn K (.ref D.a_TooOld_init) = some (.type "function")
  no_TooOld_moment : PySem.W.findIn K (.ref D.c_TooOld) "moment" = some none
  sb_TooOld_TooOld : PySem.W.subIn K (.ref D.c_TooOld) (.ref D.c_TooOld) = some true
  sb_TooOld_NoMoment : PySem.W.subIn K (.ref D.c_TooOld) (.ref D.c_NoMoment) = some false
  g_NoMoment : mg "NoMoment" = some (.ref D.c_NoMoment)
  xc_NoMoment : XC K D.c_NoMoment
  sv_NoMoment : PySem.W.subIn K (.ref D.c_NoMoment) (.type "ValueError") = some true
  iC_NoMoment : PySem.W.findIn K (.ref D.c_NoMoment) "__init__" = some (some (.ref D.a_NoMoment_init))
  tI_NoMoment : PySem.W.typeIn K (.ref D.a_NoMoment_init) = some (.type "function")
  no_NoMoment_moment : PySem.W.findIn K (.ref D.c_NoMoment) "moment" = some none
  sb_NoMoment_TooOld : PySem.W.subIn K (.ref D.c_NoMoment) (.ref D.c_TooOld) = some false
  sb_NoMoment_NoMoment : PySem.W.subIn K (.ref D.c_NoMoment) (.ref D.c_NoMoment) = some true
  g_NoToken : mg "NoToken" = some (.ref D.c_NoToken)
  g_Leaves : mg "Leaves" = some (.ref D.c_Leaves)
  cl_Leaves : Cls K D.c_Leaves
  mk_Leaves : Mk K D.c_Leaves D.a_Leaves_init
  me_Leaves_leaf_at : Meth K D.c_Leaves "leaf_at" D.a_Leaves_leaf_at
  me_Leaves_has : Meth K D.c_Leaves "has" D.a_Leaves_has
  me_Leaves_add : Meth K D.c_Leaves "add" D.a_Leaves_add
  me_Leaves_discard : Meth K D.c_Leaves "discard" D.a_Leaves_discard
  me_Leaves_join_at : Meth K D.c_Leaves "join_at" D.a_Leaves_join_at
  na_Leaves_parted : NoAttr K D.c_Leaves "parted"
  g_Makes : mg "Makes" = some (.ref D.c_Makes)
  cl_Makes : Cls K D.c_Makes
  mk_Makes : Mk K D.c_Makes D.a_Makes_init
  me_Makes_add : Meth K D.c_Makes "add" D.a_Makes_add
  me_Makes_value_at : Meth K D.c_Makes "value_at" D.a_Makes_value_at
  me_Makes_all_at : Meth K D.c_Makes "all_at" D.a_Makes_all_at
  me_Makes_thrown : Meth K D.c_Makes "thrown" D.a_Makes_thrown
  na_Makes_by_key : NoAttr K D.c_Makes "by_key"
  g_Bank : mg "Bank" = some (.ref D.c_Bank)
  cl_Bank : Cls K D.c_Bank
  mk_Bank : Mk K D.c_Bank D.a_Bank_init
  me_Bank_lot_of : Meth K D.c_Bank "lot_of" D.a_Bank_lot_of
  na_Bank_lots : NoAttr K D.c_Bank "lots"
  na_Bank_size : NoAttr K D.c_Bank "size"
  g_Slots : mg "Slots" = some (.ref D.c_Slots)
  cl_Slots : Cls K D.c_Slots
  mk_Slots : Mk K D.c_Slots D.a_Slots_init
  me_Slots_home : Meth K D.c_Slots "home" D.a_Slots_home
  me_Slots_move_next : Meth K D.c_Slots "move_next" D.a_Slots_move_next
  me_Slots_begin_row : Meth K D.c_Slots "begin_row" D.a_Slots_begin_row
  me_Slots_put : Meth K D.c_Slots "put" D.a_Slots_put
  me_Slots_sure : Meth K D.c_Slots "sure" D.a_Slots_sure
  me_Slots_drop : Meth K D.c_Slots "drop" D.a_Slots_drop
  me_Slots_has : Meth K D.c_Slots "has" D.a_Slots_has
  na_Slots_old : NoAttr K D.c_Slots "old"
  na_Slots_young : NoAttr K D.c_Slots "young"
  na_Slots_shifted : NoAttr K D.c_Slots "shifted"
  na_Slots_number : NoAttr K D.c_Slots "number"
  g_Token : mg "Token" = some (.ref D.c_Token)
  cl_Token : Cls K D.c_Token
  ic_Token : IC K D.c_Token
  sb_Token_Down : PySem.W.subIn K (.ref D.c_Token) (.ref D.c_Down) = some false
  sb_Token_Up : PySem.W.subIn K (.ref D.c_Token) (.ref D.c_Up) = some false
  mk_Token : Mk K D.c_Token D.a_Token_init
  na_Token_at : NoAttr K D.c_Token "at"
  na_Token_end : NoAttr K D.c_Token "end"
  g_Up : mg "Up" = some (.ref D.c_Up)
  cl_Up : Cls K D.c_Up
  ic_Up : IC K D.c_Up
  sb_Up_Down : PySem.W.subIn K (.ref D.c_Up) (.ref D.c_Down) = some false
  sb_Up_Up : PySem.W.subIn K (.ref D.c_Up) (.ref D.c_Up) = some true
  mk_Up : Mk K D.c_Up D.a_Up_init
  me_Up_holds : Meth K D.c_Up "holds" D.a_Up_holds
  na_Up_at : NoAttr K D.c_Up "at"
  na_Up_end : NoAttr K D.c_Up "end"
  g_Down : mg "Down" = some (.ref D.c_Down)
  cl_Down : Cls K D.c_Down
  ic_Down : IC K D.c_Down
  sb_Down_Down : PySem.W.subIn K (.ref D.c_Down) (.ref D.c_Down) = some true
  sb_Down_Up : PySem.W.subIn K (.ref D.c_Down) (.ref D.c_Up) = some false
  mk_Down : Mk K D.c_Down D.a_Down_init
  me_Down_holds : Meth K D.c_Down "holds" D.a_Down_holds
  na_Down_at : NoAttr K D.c_Down "at"
  na_Down_end : NoAttr K D.c_Down "end"
  g_House : mg "House" = some (.ref D.c_House)
  cl_House : Cls K D.c_House
  mk_House : Mk K D.c_House D.a_House_init
  me_House_done : Meth K D.c_House "done" D.a_House_done
  me_House_put : Meth K D.c_House "put" D.a_House_put
  me_House_drop : Meth K D.c_House "drop" D.a_House_drop
  me_House_hold : Meth K D.c_House "hold" D.a_House_hold
  me_House_let_go : Meth K D.c_House "let_go" D.a_House_let_go
  me_House_held : Meth K D.c_House "held" D.a_House_held
  me_House_sweep : Meth K D.c_House "sweep" D.a_House_sweep
  me_House_ask_moment : Meth K D.c_House "ask_moment" D.a_House_ask_moment
  me_House_page_at : Meth K D.c_House "page_at" D.a_House_page_at
  na_House_holders : NoAttr K D.c_House "holders"
  na_House_now : NoAttr K D.c_House "now"
  na_House_floor : NoAttr K D.c_House "floor"
  na_House_slots : NoAttr K D.c_House "slots"
  na_House_leaves : NoAttr K D.c_House "leaves"
  na_House_past : NoAttr K D.c_House "past"
  na_House_pages : NoAttr K D.c_House "pages"
  na_House_marked : NoAttr K D.c_House "marked"
  cr_WalkError : ClX.CRead K D.c_WalkError (.type "type")
  ve_WalkError : PySem.W.findCls K (.ref D.c_WalkError) (.type "type") "__init__" = some (.val (.builtin "ValueError.__init__"))
  cr_Token : ClX.CRead K D.c_Token (.type "type")
  ci_Token_init : PySem.W.findCls K (.ref D.c_Token) (.type "type") "__init__" = some (.val (.ref D.a_Token_init))
  k_MOST_KEYS : mg "MOST_KEYS" = some (.int 8 D.t_MOST_KEYS)
  k_LEAST_OF_TWO : mg "LEAST_OF_TWO" = some (.int 5 D.t_LEAST_OF_TWO)
  k_PLACES : mg "PLACES" = some (.int 65536 D.t_PLACES)
  k_LEAST_SIZE : mg "LEAST_SIZE" = some (.int 4 D.t_LEAST_SIZE)
  k_MOST_SIZE : mg "MOST_SIZE" = some (.int 256 D.t_MOST_SIZE)
  n_bool : mg "bool" = none
  n_dict : mg "dict" = none
  n_int : mg "int" = none
  n_isinstance : mg "isinstance" = none
  n_len : mg "len" = none
  n_list : mg "list" = none
  n_max : mg "max" = none
  n_min : mg "min" = none
  n_range : mg "range" = none
  n_sorted : mg "sorted" = none
  n_str : mg "str" = none
  n_tuple : mg "tuple" = none
section
variable {P : Program} {w : World} {K : PySem.W.Frag} {mg : Str → Option Value} {base : Heap}
abbrev sp_law (K : PySem.W.Frag) (_ : Ad) : Sp := spEnd K
theorem sp_law_end {K : PySem.W.Frag} {D : Ad} {vs : List V} {H : Hp} {Q : VK} {E : XK} (h : spEnd K vs H Q E) : sp_law K D vs H Q E := h
/-! the program's bits -/
def sp_turned (_ : PySem.W.Frag) (_ : Ad) : Sp := Sp1 fun x H Q _ => ∃ n : Nat, x = .int n ∧ Q (.int (r16 n : Nat)) H

def sp_mark_of (_ : PySem.W.Frag) (_ : Ad) : Sp := Sp1 fun x H Q _ => ∃ n : Nat, x = .int n ∧ Q (.int (n % 65536 : Nat)) H
theorem ok_mark_of {D : Ad} (T : Txt K mg D) : FnOk P w K mg base (L2.CX P w) 1 D.a_mark_of D.d_mark_of ["key"] (sp_mark_of K D) := by
  refine T.F_mark_of.okX sc_mark_of (fun vs H Q E h => sp1_len h) (fun cdv A outer s H vs Q E hr h => ⟨_, (pss_one (ps_ret (pe_op op_and (pv 0) (pe_op op_sub (pe_glob (v := .int 65536) rfl T.k_PLACES ⟨_, rfl⟩) pe_int)))), ?_⟩)
  obtain ⟨x0, rfl, h⟩ := h
  rw [show L2.start n_mark_of [x0] = [some x0] from rfl]
  try dsimp only [cxOf]
  obtain ⟨n, rfl, k⟩ := h
  wtm_at "go"
  rw [and_mark]
  exact k


def sp_place_of (_ : PySem.W.Frag) (_ : Ad) : Sp := Sp1 fun x H Q _ => ∃ n : Nat, x = .int n ∧ Q (.int (r16 n : Nat)) H

def sp_slot_of (_ : PySem.W.Frag) (_ : Ad) : Sp := Sp2 fun x y H Q _ => ∃ n s : Nat, s ≤ 16 ∧ x = .int n ∧ y = .int (2 ^ s : Nat) ∧ Q (.int (n % 2 ^ s : Nat)) H
def sp_slot_at (_ : PySem.W.Frag) (_ : Ad) : Sp := Sp2 fun x y H Q _ => ∃ n s : Nat, s ≤ 16 ∧ x = .int n ∧ y = .int (2 ^ s : Nat) ∧ Q (.int (r16 n % 2 ^ s : Nat)) H
def sp_stretch_of (_ : PySem.W.Frag) (_ : Ad) : Sp := Sp2 fun x y H Q _ => ∃ n s : Nat, s ≤ 16 ∧ x = .int n ∧ y = .int (2 ^ s : Nat) ∧
  ∀ p, H p = none → Q (.ref p) (upd H p (.tup [.int (r16 n : Nat), .int (r16 n + 2 ^ (16 - s) : Nat)]))
def sp_halves (_ : PySem.W.Frag) (_ : Ad) : Sp := Sp2 fun x y H Q _ => ∃ n m : Int, x = .int n ∧ y = .int m ∧ ∀ p, H p = none → Q (.ref p) (upd H p (.tup [.int n, .int (n + m)]))
section
variable {D : Ad} {H : Hp} {Q : VK} {E : XK} {n s : Nat}
theorem c_turned (q : Q (.int (r16 n : Nat)) H) : sp_turned K D ([.int (n : Nat)] ++ []) H Q E := ⟨_, rfl, n, rfl, q⟩
theorem c_mark (q : Q (.int (n % 65536 : Nat)) H) : sp_mark_of K D ([.int (n : Nat)] ++ []) H Q E := ⟨_, rfl, n, rfl, q⟩
theorem c_place (q : Q (.int (r16 n : Nat)) H) : sp_place_of K D ([.int (n : Nat)] ++ []) H Q E := ⟨_, rfl, n, rfl, q⟩
theorem c_slot_of (hs : s ≤ 16) (q : Q (.int (n % 2 ^ s : Nat)) H) : sp_slot_of K D ([.int (n : Nat), .int (2 ^ s : Nat)] ++ []) H Q E := ⟨_, _, rfl, n, s, hs, rfl, rfl, q⟩
theorem c_slot_at (hs : s ≤ 16) (q : Q (.int (r16 n % 2 ^ s : Nat)) H) : sp_slot_at K D ([.int (n : Nat), .int (2 ^ s : Nat)] ++ []) H Q E := ⟨_, _, rfl, n, s, hs, rfl, rfl, q⟩
theorem c_stretch {B : Hp} {L : List Cell} (w : W B L H) (hs : s ≤ 16) (q : ∀ p B' H', H p = none → Same B B' → B' p = some (.tup [.int (r16 n : Nat), .int (r16 n + 2 ^ (16 - s) : Nat)]) → W B' L H' → Q (.ref p) H') :
    sp_stretch_of K D ([.int (n : Nat), .int (2 ^ s : Nat)] ++ []) H Q E := ⟨_, _, rfl, n, s, hs, rfl, rfl, fun p hp => q p _ _ hp (same_new (w.freeB hp)) upd_same (w.newB hp _)⟩
theorem c_halves {B : Hp} {L : List Cell} {n m : Int} (w : W B L H) (q : ∀ p B' H', H p = none → Same B B' → B' p = some (.tup [.int n, .int (n + m)]) → W B' L H' → Q (.ref p) H') :
    sp_halves K D ([.int n, .int m] ++ []) H Q E := ⟨_, _, rfl, n, m, rfl, rfl, fun p hp => q p _ _ hp (same_new (w.freeB hp)) upd_same (w.newB hp _)⟩
end
local macro_rules | `(tactic| wtm_at "s0") => `(tactic| first
  | with_reducible refine c_turned ?_
  | with_reducible refine c_mark ?_
  | with_reducible refine c_place ?_
  | ((with_reducible refine c_slot_of ?gvE ?gvH); (case gvE => first | assumption | omega))
  | ((with_reducible refine c_slot_at ?gvE ?gvH); (case gvE => first | assumption | omega)))

theorem ok_slot_of {D : Ad} (T : Txt K mg D) : FnOk P w K mg base (L2.CX P w) 2 D.a_slot_of D.d_slot_of ["key", "size"] (sp_slot_of K D) := by
  refine T.F_slot_of.okX sc_slot_of (fun vs H Q E h => sp2_len h) (fun cdv A outer s H vs Q E hr h => ⟨_, (pss_one (ps_ret (pe_op op_and (pe_call (ok_mark_of T) (hr.mono (by decide)) rfl T.g_mark_of T.F_mark_of.kp T.b_mark_of .nil pX (pa_cons (pv 0) pa_nil)) (pe_op op_sub (pv 1) pe_int)))), ?_⟩)
  obtain ⟨x0, x1, rfl, h⟩ := h
  rw [show L2.start n_slot_of [x0, x1] = [some x0, some x1] from rfl]
  try dsimp only [cxOf]
  obtain ⟨n, s, hs, rfl, rfl, k⟩ := h
  wtm_at "go"
  rw [and_pow, mod16 n hs]
  exact k


/-! NoKey: raised with its key -/
local macro_rules | `(tactic| wtm_at "s0") => `(tactic| first | with_reducible refine g_raiseO ?_ | with_reducible refine g_vei ?_ | with_reducible refine g_ost ?_ | with_reducible refine g_tryAs ?_ | with_reducible refine g_xfA ?_ | with_reducible refine g_callW ?_ | with_reducible refine g_methW ?_)
abbrev cNK (_ : Ad) : Addr := 0

/-! NoMoment: raised with its moment -/
abbrev sp_NoMoment_init (_ : PySem.W.Frag) (D : Ad) : Sp := spX1 D.c_NoMoment "moment"
abbrev cNM (D : Ad) : Addr := D.c_NoMoment
theorem ok_NoMoment_init {D : Ad} (T : Txt K mg D) : FnOk P w K mg base (L2.CX P w) 1 D.a_NoMoment_init D.d_NoMoment_init ["self", "moment"] (sp_NoMoment_init K D) := by
  refine T.F_NoMoment_init.okX sc_NoMoment_init (fun vs H Q E h => sp2_len h) (fun cdv A outer s H vs Q E hr h => ⟨_, (pss_cons (ps_expr (pe_weinit rfl T.g_WalkError T.cr_WalkError T.ve_WalkError (pa_cons (pv 0) (pa_cons pe_str pa_nil))))
    (pss_one (ps_ost (pv 0) (pv 1)))), ?_⟩)
  obtain ⟨x0, x1, rfl, h⟩ := h
  rw [show L2.start n_NoMoment_init [x0, x1] = [some x0, some x1] from rfl]
  try dsimp only [cxOf]
  obtain ⟨a, rfl, ha, k⟩ := h
  wtm_at "go"
  refine r_vei T.xc_NoMoment.ox (by simp) ha ?_
  wtm_at "go"
  refine r_ost T.xc_NoMoment.ox T.no_NoMoment_moment ha fun dx h1 h2 => ?_
  wtm_at "go"
  exact k dx h1 h2


/-! the program's rows of slots: the Bank instances stay, the lists of lots, the lots and the Slots are owned -/
def BkB (D : Ad) (B : Hp) (b : Bk) : Prop := ∃ dx, B b.bo = some (.ins D.c_Bank dx [("size", .int (b.ds.length : Nat)), ("lots", .ref b.la)])
theorem BkB.mono {D : Ad} {B B' : Hp} {b : Bk} (h : BkB D B b) (s : Same B B') : BkB D B' b := h.imp fun _ e => s _ _ e
def laC (b : Bk) : Cell := (b.la, .lst (rfL b.ds))
def yC : Option Bk → List Cell
  | none => []
  | some b => [laC b]
def yV : Option Bk → V
  | none => .non
  | some b => .ref b.bo
def slO (D : Ad) (dx : Addr) (x : Sl) (m : Int) : HO := .ins D.c_Slots dx [("old", .ref x.o.bo), ("young", yV x.y), ("shifted", .int (x.s : Nat)), ("number", .int m)]
def slC (D : Ad) (al dx : Addr) (x : Sl) (m : Int) : List Cell := (al, slO D dx x m) :: laC x.o :: (yC x.y ++ x.all.map lotC)
structure SlW (D : Ad) (B H : Hp) (L : List Cell) (al : Addr) (x : Sl) (m : Int) : Prop where
  ob : BkB D B x.o
  yb : ∀ b, x.y = some b → BkB D B b
  w : ∃ dx, W B (slC D al dx x m ++ L) H
def sp_Bank_init (K : PySem.W.Frag) (D : Ad) : Sp := Sp2 fun x y H Q _ => ∃ (a dx : Addr) (e : Nat) (B : Hp) (L : List Cell), x = .ref a ∧ y = .int (2 ^ e : Nat) ∧ e ≤ 8 ∧ W B ((a, .ins D.c_Bank dx []) :: L) H ∧
  ∀ (b : Bk) (B' H' : Hp), b.bo = a → b.ds.length = 2 ^ e → (∀ z ∈ b.ds, z.2 = []) → Same B B' → BkB D B' b → W B' (laC b :: (b.ds.map lotC ++ L)) H' → Q .non H'
theorem ok_Bank_init {D : Ad} (T : Txt K mg D) : FnOk P w K mg base (L2.CX P w) 1 D.a_Bank_init D.d_Bank_init ["self", "size"] (sp_Bank_init K D) := by
  refine T.F_Bank_init.okX sc_Bank_init (fun vs H Q E h => sp2_len h) (fun cdv A outer s H vs Q E hr h => ⟨_, (pss_cons (ps_fld (pv 0) (pv 1) rfl)
    (pss_one (ps_fld (pv 0) (pe_lc (own := [("slot", 2)]) (g := gName 2) rfl sc_Bank_init.nd (pi_range1 (by rfl) T.n_range (pa_cons (pv 1) pa_nil)) (blkOk_by (own := [("slot", 2)]) (N := n_Bank_init) (sc := defScope s_Bank_init) (by decide +kernel)) (fun _ _ _ _ _ => (pg_name (i := 2) sc_Bank_init.nd rfl (Or.inl rfl))) (fun _ _ _ _ _ => pts_nil) (fun _ _ _ _ _ => pe_dnewK)) rfl))), ?_⟩)
  obtain ⟨x0, x1, rfl, h⟩ := h
  rw [show L2.start n_Bank_init [x0, x1] = [some x0, some x1, none] from rfl]
  try dsimp only [cxOf]
  obtain ⟨a, dx, e, B, L, rfl, rfl, he, w, k⟩ := h
  have hpe : 2 ^ e ≤ 256 := Nat.pow_le_pow_right (n := 2) (by decide) he
  wtm_at "go"
  refine r_sfld (w.get (List.mem_cons_self ..)) T.cl_Bank T.na_Bank_size (by simp) ?_
  have w := W.put0 w (.ins D.c_Bank dx (putF "size" (.int (2 ^ e : Nat)) []))
  generalize hz : 2 ^ e = z at *
  wtm_at "go"
  intro D1 hD1
  refine LC.rangeA w hD1 (szlt (by omega)) (fun i B' A acc => B' = B ∧ ∃ ds : Lots, ds.length = i ∧ (∀ z ∈ ds, z.2 = []) ∧ A.Perm (ds.map lotC) ∧ acc = rfL ds) ⟨rfl, [], rfl, nofun, .refl _, rfl⟩ ?_ ?_
  · rintro i B' A acc H2 Nx hi s2 w ⟨rfl, ds, hl, he, hA, rfl⟩ hl1 hl2 hN
    wtm_at "go"
    refine ⟨rfl, ?_⟩
    wtm_at "go"
    refine o_dnew w fun p H3 hp w => ?_
    have w := w.perm (List.Perm.swap _ _ _)
    refine r_acc w hl2 fun H4 w4 => ?_
    refine hN _ ((p, .dK []) :: A) _ _ (same_refl _) w4 ⟨rfl, ds ++ [(p, [])], by simp; omega, fun z hz => ?_, ?_, ?_⟩ (by simp at hl1 ⊢; omega)
    · rcases List.mem_append.mp hz with hz | hz
      · exact he z hz
      · have : z = (p, []) := by simpa using hz
        rw [this]
    · rw [List.map_append]
      exact (hA.cons _).trans (List.perm_append_singleton _ _).symm
    · unfold rfL
      rw [List.map_append]
      rfl
  rintro B' A acc H2 s2 w ⟨rfl, ds, hl, he, hA, rfl⟩ hl1
  have w := w.perm ((hA.append_right _).cons _)
  wtm_at "go"
  refine r_sfld (w.get (List.mem_cons_of_mem _ (List.mem_append_right _ (List.mem_cons_self ..)))) T.cl_Bank T.na_Bank_lots (by simp [putF]) ?_
  have w := W.put (L := (D1, .lst (rfL ds)) :: ds.map lotC) w (.ins D.c_Bank dx (putF "lots" (.ref D1) (putF "size" (.int (z : Nat)) [])))
  have w := w.perm (List.perm_middle (l₁ := (D1, HO.lst (rfL ds)) :: ds.map lotC))
  have h0 := w.out _ (List.mem_cons_self ..)
  have hl : ds.length = z := by rw [hl]; omega
  wtm_at "go"
  exact k ⟨a, D1, ds⟩ _ _ rfl hl he (same_new h0) ⟨dx, by rw [upd_same]; show some _ = some _; rw [hl]; rfl⟩ w.give

section
variable {D : Ad} {B B' H : Hp} {L A : List Cell} {al : Addr} {x : Sl} {m : Int} {d : Addr} {l : Kv} {i : Nat} {b : Bk}
theorem SlW.ob_ (h : SlW D B H L al x m) : ∃ dx, H al = some (slO D dx x m) := h.w.imp fun _ w => w.get (List.mem_cons_self ..)
theorem SlW.la (h : SlW D B H L al x m) : H x.o.la = some (.lst (rfL x.o.ds)) := by
  obtain ⟨_, w⟩ := h.w
  exact w.get (List.mem_cons_of_mem _ (List.mem_cons_self ..))
theorem SlW.ly (h : SlW D B H L al x m) (e : x.y = some b) : H b.la = some (.lst (rfL b.ds)) := by
  obtain ⟨_, w⟩ := h.w
  refine w.get (List.mem_append_left _ (List.mem_cons_of_mem _ (List.mem_cons_of_mem _ (List.mem_append_left _ ?_))))
  rw [e]
  exact List.mem_cons_self ..
theorem SlW.bo (h : SlW D B H L al x m) : BkB D H x.o := by
  obtain ⟨_, w⟩ := h.w
  exact h.ob.imp fun _ e => w.rd e
theorem SlW.by_ (h : SlW D B H L al x m) (e : x.y = some b) : BkB D H b := by
  obtain ⟨_, w⟩ := h.w
  exact (h.yb b e).imp fun _ e => w.rd e
theorem SlW.lot (h : SlW D B H L al x m) (e : x.all[i]? = some (d, l)) : H d = some (.dK (dkP l)) := by
  obtain ⟨dx, w⟩ := h.w
  refine W.lotG (B := B) (A := (al, slO D dx x m) :: laC x.o :: yC x.y) (R := L) ?_ e
  simpa [slC, List.append_assoc] using w
theorem SlW.put (h : SlW D B H L al x m) (e : x.all[i]? = some (d, l)) (l' : Kv) : SlW D B (upd H d (.dK (dkP l'))) L al (x.set i (d, l')) m := by
  obtain ⟨dx, w⟩ := h.w
  have w2 : W B (((al, slO D dx x m) :: laC x.o :: yC x.y) ++ (x.all.map lotC ++ L)) H := by simpa [slC, List.append_assoc] using w
  have w3 := W.lot w2 e l'
  rw [← Sl.set_all] at w3
  have hd : ∀ b : Bk, (∀ a ∈ [b], True) := fun _ _ _ => trivial
  unfold Sl.set at w3 ⊢
  by_cases c : i < x.o.ds.length
  · rw [if_pos c] at w3 ⊢
    have e1 : x.o.ds[i]? = some (d, l) := by
      unfold Sl.all at e
      rwa [List.getElem?_append_left c] at e
    refine ⟨?_, h.yb, dx, ?_⟩
    · obtain ⟨dx2, e2⟩ := h.ob
      exact ⟨dx2, by show B x.o.bo = some (.ins _ _ [("size", .int ((x.o.ds.set i (d, l')).length : Nat)), _]); rw [List.length_set]; exact e2⟩
    · have e3 : laC (x.o.set i (d, l')) = laC x.o := by
        show (x.o.la, HO.lst (rfL (x.o.ds.set i (d, l')))) = (x.o.la, HO.lst (rfL x.o.ds))
        rw [rfL_set e1]
      show W B (((al, slO D dx x m) :: laC (x.o.set i (d, l')) :: (yC x.y ++ _)) ++ L) _
      rw [e3]
      simpa [List.append_assoc] using w3
  · rw [if_neg c] at w3 ⊢
    cases ey : x.y with
    | none =>
      unfold Sl.all Sl.yd at e
      rw [ey] at e
      have := (List.getElem?_eq_some_iff.mp e).1
      rw [List.append_nil] at this
      exact absurd this c
    | some b =>
      have e1 : b.ds[i - x.o.ds.length]? = some (d, l) := by
        unfold Sl.all Sl.yd at e
        rw [ey, List.getElem?_append_right (by omega)] at e
        exact e
      rw [ey] at w3
      refine ⟨h.ob, fun b' eb => ?_, dx, ?_⟩
      · cases eb
        obtain ⟨dx2, e2⟩ := h.yb b ey
        exact ⟨dx2, by show B b.bo = some (.ins _ _ [("size", .int ((b.ds.set _ (d, l')).length : Nat)), _]); rw [List.length_set]; exact e2⟩
      · have e3 : laC (b.set (i - x.o.ds.length) (d, l')) = laC b := by
          show (b.la, HO.lst (rfL (b.ds.set _ (d, l')))) = (b.la, HO.lst (rfL b.ds))
          rw [rfL_set e1]
        have e4 : slO D dx x m = slO D dx { x with y := some (b.set (i - x.o.ds.length) (d, l')) } m := by
          unfold slO
          rw [ey]
          rfl
        rw [e4] at w3
        show W B (((al, slO D dx { x with y := some (b.set (i - x.o.ds.length) (d, l')) } m) :: laC x.o :: (laC (b.set (i - x.o.ds.length) (d, l')) :: _)) ++ L) _
        rw [e3]
        simpa [List.append_assoc, yC] using w3
end
def sp_Bank_lot_of (K : PySem.W.Frag) (D : Ad) : Sp := Sp2 fun x y H Q _ => ∃ (b : Bk) (k : Int) (d : Addr) (l : Kv), x = .ref b.bo ∧ y = .int k ∧ 0 ≤ k ∧ BkB D H b ∧ H b.la = some (.lst (rfL b.ds)) ∧ (∃ e, 2 ≤ e ∧ e ≤ 8 ∧ b.ds.length = 2 ^ e) ∧ b.ds[k.toNat % b.ds.length]? = some (d, l) ∧ Q (.ref d) H
theorem ok_Bank_lot_of {D : Ad} (T : Txt K mg D) : FnOk P w K mg base (L2.CX P w) 3 D.a_Bank_lot_of D.d_Bank_lot_of ["self", "key"] (sp_Bank_lot_of K D) := by
  refine T.F_Bank_lot_of.okX sc_Bank_lot_of (fun vs H Q E h => sp2_len h) (fun cdv A outer s H vs Q E hr h => ⟨_, (pss_one (ps_ret (pe_ix ix_list (pe_fld (pv 0) rfl) (pe_call (ok_slot_of T) (hr.mono (by decide)) rfl T.g_slot_of T.F_slot_of.kp T.b_slot_of .nil pX (pa_cons (pv 1) (pa_cons (pe_fld (pv 0) rfl) pa_nil))) (fun _ _ => rfl)))), ?_⟩)
  obtain ⟨x0, x1, rfl, h⟩ := h
  rw [show L2.start n_Bank_lot_of [x0, x1] = [some x0, some x1] from rfl]
  try dsimp only [cxOf]
  obtain ⟨b, k, d, l, rfl, rfl, h0, ⟨dx, hb⟩, hl, ⟨e, e2, e8, he⟩, hd, q⟩ := h
  obtain ⟨n, rfl⟩ := Int.eq_ofNat_of_zero_le h0
  rw [Int.toNat_natCast] at hd
  have e16 : e ≤ 16 := by omega
  wtm_at "go"
  refine r_fld hb T.cl_Bank T.na_Bank_lots rfl ?_
  wtm_at "go"
  refine r_fld hb T.cl_Bank T.na_Bank_size rfl ?_
  rw [he] at hd ⊢
  wtm_at "go"
  refine r_ixL (SqL.of hl) ?_ q
  have hi := (List.getElem?_eq_some_iff.mp hd).1
  rw [atI_nat' (by omega) (by rw [rfL_len]; omega), Int.toNat_natCast]
  exact rfL_at hd

theorem putF_le (f : Str) (v : V) : ∀ fs : List (Str × V), (putF f v fs).length ≤ fs.length + 1
  | [] => Nat.le_refl 1
  | (g, x) :: r => by
    have := putF_le f v r
    unfold putF
    split
    · simp
    · simp; omega
theorem plS {f : Str} {v : V} {fs : List (Str × V)} {n : Nat} (h : fs.length ≤ n) : (putF f v fs).length ≤ n + 1 := Nat.le_trans (putF_le f v fs) (by omega)
theorem plT {fs : List (Str × V)} (n : Nat) (h : fs.length ≤ n) (hn : n < 1000) : fs.length < 1000 := by omega
theorem mk_bank {D : Ad} {B H : Hp} {L : List Cell} {Q : VK} {E : XK} {e : Nat} {v : V} (hv : v = .int (2 ^ e : Nat)) (w : W B L H) (he : e ≤ 8) (q : ∀ (b : Bk) (B' H' : Hp), b.ds.length = 2 ^ e → (∀ z ∈ b.ds, z.2 = []) → Same B B' → BkB D B' b → W B' (laC b :: (b.ds.map lotC ++ L)) H' → Q (.ref b.bo) H') : rMk D.c_Bank (sp_Bank_init K D) [] E Q [v] H := by
  intro x dx hx hdx hne
  have w1 := w.newB hdx (.own x)
  have w2 := w1.newL (p := x) (by rw [upd_ne (Ne.symm hne)]; exact hx) (.ins D.c_Bank dx [])
  exact ⟨_, _, rfl, x, dx, e, _, L, rfl, hv, he, w2, fun b B' H' hb hl hz s i w3 => ⟨rfl, by have := q b B' H' hl hz (same_trans (same_new (w.freeB hdx)) s) i w3; rwa [hb] at this⟩⟩
def sp_Slots_init (K : PySem.W.Frag) (D : Ad) : Sp := Sp1 fun x H Q _ => ∃ (a dx : Addr) (B : Hp) (L : List Cell), x = .ref a ∧ W B ((a, .ins D.c_Slots dx []) :: L) H ∧
  ∀ (x : Sl) (B' H' : Hp), Same B B' → x.y = none → x.s = 0 → x.o.ds.length = 4 → (∀ z ∈ x.o.ds, z.2 = []) → SlW D B' H' L a x 0 → Q .non H'
theorem ok_Slots_init {D : Ad} (T : Txt K mg D) : FnOk P w K mg base (L2.CX P w) 3 D.a_Slots_init D.d_Slots_init ["self"] (sp_Slots_init K D) := by
  refine T.F_Slots_init.okX sc_Slots_init (fun vs H Q E h => sp1_len h) (fun cdv A outer s H vs Q E hr h => ⟨_, (pss_cons (ps_fld (pv 0) (pe_make T.mk_Bank (ok_Bank_init T) (hr.mono (by decide)) rfl T.g_Bank T.b_Bank_init .nil pX (pa_cons (pe_glob (v := .int 4) rfl T.k_LEAST_SIZE ⟨_, rfl⟩) pa_nil)) rfl)
    (pss_cons (ps_fld (pv 0) pe_non rfl)
    (pss_cons (ps_fld (pv 0) pe_int rfl)
    (pss_one (ps_fld (pv 0) pe_int rfl))))), ?_⟩)
  obtain ⟨x0, rfl, h⟩ := h
  rw [show L2.start n_Slots_init [x0] = [some x0] from rfl]
  try dsimp only [cxOf]
  obtain ⟨a, dx, B, L, rfl, w, k⟩ := h
  wtm_at "go"
  refine mk_bank (e := 2) rfl w (by decide) fun b B1 H1 hl hz s1 ib w => ?_
  wtm_at "go"
  have w := w.perm (List.perm_middle (l₁ := laC b :: b.ds.map lotC))
  refine r_sfld (w.get (List.mem_cons_self ..)) T.cl_Slots T.na_Slots_old (by simp) ?_
  have w := W.put0 w (.ins D.c_Slots dx (putF "old" (.ref b.bo) []))
  wtm_at "go"
  refine r_sfld (w.get (List.mem_cons_self ..)) T.cl_Slots T.na_Slots_young (plT 1 (plS (Nat.le_refl 0)) (by decide)) ?_
  have w := W.put0 w (.ins D.c_Slots dx (putF "young" .non (putF "old" (.ref b.bo) [])))
  wtm_at "go"
  refine r_sfld (w.get (List.mem_cons_self ..)) T.cl_Slots T.na_Slots_shifted (plT 2 (plS (plS (Nat.le_refl 0))) (by decide)) ?_
  have w := W.put0 w (.ins D.c_Slots dx (putF "shifted" (.int 0) (putF "young" .non (putF "old" (.ref b.bo) []))))
  wtm_at "go"
  refine r_sfld (w.get (List.mem_cons_self ..)) T.cl_Slots T.na_Slots_number (plT 3 (plS (plS (plS (Nat.le_refl 0)))) (by decide)) ?_
  have w := W.put0 w (.ins D.c_Slots dx (putF "number" (.int 0) (putF "shifted" (.int 0) (putF "young" .non (putF "old" (.ref b.bo) [])))))
  wtm_at "go"
  refine k ⟨b, none, 0⟩ B1 _ s1 rfl rfl hl hz ⟨ib, nofun, dx, ?_⟩
  show W B1 ((a, _) :: laC b :: ((b.ds ++ []).map lotC) ++ L) _
  rw [List.append_nil]
  exact w

def sp_Slots_home (K : PySem.W.Frag) (D : Ad) : Sp := Sp2 fun x y H Q _ => ∃ (al : Addr) (s : Sl) (m : Int) (kv : Kv) (k : Int) (B : Hp) (L : List Cell), x = .ref al ∧ y = .int k ∧ 0 ≤ k ∧ SlW D B H L al s m ∧ SlI s kv ∧ ∀ d l, s.all[s.hi k]? = some (d, l) → Q (.ref d) H
theorem ok_Slots_home {D : Ad} (T : Txt K mg D) : FnOk P w K mg base (L2.CX P w) 4 D.a_Slots_home D.d_Slots_home ["self", "key"] (sp_Slots_home K D) := by
  refine T.F_Slots_home.okX sc_Slots_home (fun vs H Q E h => sp2_len h) (fun cdv A outer s H vs Q E hr h => ⟨_, (pss_cons (ps_if (PW.pt (pw_and (pt_cmpR op_notNo (pe_fld (pv 0) rfl) pe_non (nomark _)) (pw_and1 (pt_cmpR op_lt (pe_call (ok_slot_of T) (hr.mono (by decide)) rfl T.g_slot_of T.F_slot_of.kp T.b_slot_of .nil pX (pa_cons (pv 1) (pa_cons (pe_fld (pe_fld (pv 0) rfl) rfl) pa_nil))) (pe_fld (pv 0) rfl) (nomark _)))))
      (pss_one (ps_ret (pe_meth (pe_fld (pv 0) rfl) T.cl_Bank T.me_Bank_lot_of (ok_Bank_lot_of T) (hr.mono (by decide)) T.b_Bank_lot_of .nil pX (pa_cons (pv 1) pa_nil))))
      pss_nil)
    (pss_one (ps_ret (pe_meth (pe_fld (pv 0) rfl) T.cl_Bank T.me_Bank_lot_of (ok_Bank_lot_of T) (hr.mono (by decide)) T.b_Bank_lot_of .nil pX (pa_cons (pv 1) pa_nil))))), ?_⟩)
  obtain ⟨x0, x1, rfl, h⟩ := h
  rw [show L2.start n_Slots_home [x0, x1] = [some x0, some x1] from rfl]
  try dsimp only [cxOf]
  obtain ⟨al, s, m, kv, k, B, L, rfl, rfl, h0, sw, si, q⟩ := h
  obtain ⟨dx, ho⟩ := sw.ob_
  unfold slO at ho
  obtain ⟨d, l, ed⟩ := si.at k
  have q1 := q d l ed
  clear q
  obtain ⟨e, e2, e8, he⟩ := si.ze
  have e16 : e ≤ 16 := by omega
  obtain ⟨dxo, hbo⟩ := sw.bo
  have hla := sw.la
  wtm_at "go"
  refine r_fld ho T.cl_Slots T.na_Slots_young rfl ?_
  cases ey : s.y with
  | none =>
    dsimp only [yV]
    wtm_at "go"
    refine r_fld ho T.cl_Slots T.na_Slots_old rfl ?_
    wtm_at "go"
    refine r_meth hbo rfl ?_
    wtm_at "go"
    refine ⟨_, _, rfl, s.o, k, d, l, rfl, rfl, h0, ⟨dxo, hbo⟩, hla, si.ze, ?_, q1⟩
    unfold Sl.all Sl.yd Sl.hi at ed
    rw [ey] at ed
    rwa [List.append_nil] at ed
  | some b =>
    obtain ⟨dxy, hby⟩ := sw.by_ ey
    have hly := sw.ly ey
    obtain ⟨hsz, hbe⟩ := si.ye b ey
    obtain ⟨n, rfl⟩ := Int.eq_ofNat_of_zero_le h0
    dsimp only [yV]
    wtm_at "go"
    refine r_fld ho T.cl_Slots T.na_Slots_old rfl ?_
    wtm_at "go"
    refine r_fld hbo T.cl_Bank T.na_Bank_size rfl ?_
    rw [he]
    wtm_at "go"
    refine r_fld ho T.cl_Slots T.na_Slots_shifted rfl ?_
    rw [← he]
    unfold Sl.all Sl.yd Sl.hi at ed
    rw [ey, Int.toNat_natCast] at ed
    dsimp only at ed
    wtm_at "go"
    wtm_at "br"
    · intro c
      have c : n % s.o.ds.length < s.s := by omega
      rw [if_pos c, List.getElem?_append_right (by omega), Nat.add_sub_cancel_left] at ed
      wtm_at "go"
      refine r_fld ho T.cl_Slots T.na_Slots_young (by rw [ey]; rfl) ?_
      wtm_at "go"
      refine r_meth hby rfl ?_
      wtm_at "go"
      exact ⟨_, _, rfl, b, n, d, l, rfl, rfl, h0, ⟨dxy, hby⟩, hly, hbe, by rw [Int.toNat_natCast]; exact ed, q1⟩
    · intro c
      have c : ¬ n % s.o.ds.length < s.s := by omega
      have hz := Nat.mod_lt n (show 0 < s.o.ds.length by have := (pow_sz si.ze).1; omega)
      rw [if_neg c, List.getElem?_append_left hz] at ed
      wtm_at "go"
      refine r_fld ho T.cl_Slots T.na_Slots_old rfl ?_
      wtm_at "go"
      refine r_meth hbo rfl ?_
      wtm_at "go"
      exact ⟨_, _, rfl, s.o, n, d, l, rfl, rfl, h0, ⟨dxo, hbo⟩, hla, si.ze, by rw [Int.toNat_natCast]; exact ed, q1⟩

section
variable {D : Ad} {B B' H H' : Hp} {L : List Cell} {al : Addr} {x : Sl} {m : Int}
theorem SlW.mv (h : SlW D B H L al x m) (s : Same B B') (w : ∀ dx, W B (slC D al dx x m ++ L) H → W B' (slC D al dx x m ++ L) H') : SlW D B' H' L al x m :=
  ⟨h.ob.mono s, fun b e => (h.yb b e).mono s, h.w.imp fun dx => w dx⟩
theorem SlW.at_ (h : SlW D B H L al x m) : ∃ A, W B A H ∧ ∀ B' H', Same B B' → W B' A H' → SlW D B' H' L al x m := by
  obtain ⟨dx, w⟩ := h.w
  exact ⟨_, w, fun B' H' s w' => ⟨h.ob.mono s, fun b e => (h.yb b e).mono s, dx, w'⟩⟩
end
def sp_Slots_sure (K : PySem.W.Frag) (D : Ad) : Sp := Sp2 fun x y H Q E => ∃ (al : Addr) (s : Sl) (m : Int) (kv : Kv) (k : Int) (B : Hp) (L : List Cell), x = .ref al ∧ y = .int k ∧ 0 ≤ k ∧ SlW D B H L al s m ∧ SlI s kv ∧
  ((k ∈ ksP kv ∧ ∀ d l, s.all[s.hi k]? = some (d, l) → Q (.ref d) H) ∨ (rz_Slots_sure ∧ k ∉ ksP kv ∧ ∀ d B' H', Same B B' → B' d = some (.xd [("key", .int k)]) → SlW D B' H' L al s m → E (.ref (cNK D)) (some d) H'))
theorem ok_Slots_sure {D : Ad} (T : Txt K mg D) : FnOk P w K mg base (L2.CX P w) 5 D.a_Slots_sure D.d_Slots_sure ["self", "key"] (sp_Slots_sure K D) := by
  refine T.F_Slots_sure.okX sc_Slots_sure (fun vs H Q E h => sp2_len h) (fun cdv A outer s H vs Q E hr h => ⟨_, (pss_cons (ps_set (i := 2) sc_Slots_sure.nd rfl (Or.inl rfl) (pe_meth (pv 0) T.cl_Slots T.me_Slots_home (ok_Slots_home T) (hr.mono (by decide)) T.b_Slots_home .nil pX (pa_cons (pv 1) pa_nil)))
    (pss_cons (ps_if (pt_cmp (pc_dnotin (hu_of hr) (pv 1) (pv 2)))
      (pss_one ps_dead)
      pss_nil)
    (pss_one (ps_ret (pv 2))))), ?_⟩)
  obtain ⟨x0, x1, rfl, h⟩ := h
  rw [show L2.start n_Slots_sure [x0, x1] = [some x0, some x1, none] from rfl]
  try dsimp only [cxOf]
  obtain ⟨al, s, m, kv, k, B, L, rfl, rfl, h0, sw, si, hq⟩ := h
  obtain ⟨dx, ho⟩ := sw.ob_
  wtm_at "go"
  refine r_meth ho rfl ?_
  wtm_at "go"
  refine ⟨_, _, rfl, al, s, m, kv, k, B, L, rfl, rfl, h0, sw, si, fun d l ed => ?_⟩
  have hd := sw.lot ed
  obtain ⟨n1, m1, g1, _⟩ := si.home ed
  wtm_at "go"
  refine r_dni hd ?_
  rw [(dkP_ks l).isSome]
  rcases hq with ⟨hk, q⟩ | ⟨hz, hk, q⟩
  · rw [decide_eq_true (m1.mpr hk)]
    wtm_at "go"
    exact q d l ed
  · exact hz.elim

def sp_Slots_has (K : PySem.W.Frag) (D : Ad) : Sp := Sp2 fun x y H Q _ => ∃ (al : Addr) (s : Sl) (m : Int) (kv : Kv) (k : Int) (B : Hp) (L : List Cell), x = .ref al ∧ y = .int k ∧ 0 ≤ k ∧ SlW D B H L al s m ∧ SlI s kv ∧ Q (.bl (decide (k ∈ ksP kv))) H
theorem ok_Slots_has {D : Ad} (T : Txt K mg D) : FnOk P w K mg base (L2.CX P w) 5 D.a_Slots_has D.d_Slots_has ["self", "key"] (sp_Slots_has K D) := by
  refine T.F_Slots_has.okX sc_Slots_has (fun vs H Q E h => sp2_len h) (fun cdv A outer s H vs Q E hr h => ⟨_, (pss_one (ps_ret (pe_cmp (pc_din (hu_of hr) (pv 1) (pe_meth (pv 0) T.cl_Slots T.me_Slots_home (ok_Slots_home T) (hr.mono (by decide)) T.b_Slots_home .nil pX (pa_cons (pv 1) pa_nil))) rfl))), ?_⟩)
  obtain ⟨x0, x1, rfl, h⟩ := h
  rw [show L2.start n_Slots_has [x0, x1] = [some x0, some x1] from rfl]
  try dsimp only [cxOf]
  obtain ⟨al, s, m, kv, k, B, L, rfl, rfl, h0, sw, si, q⟩ := h
  obtain ⟨dx, ho⟩ := sw.ob_
  wtm_at "go"
  refine r_meth ho rfl ?_
  wtm_at "go"
  refine ⟨_, _, rfl, al, s, m, kv, k, B, L, rfl, rfl, h0, sw, si, fun d l ed => ?_⟩
  have hd := sw.lot ed
  obtain ⟨n1, m1, g1, _⟩ := si.home ed
  refine r_din hd ?_
  rw [(dkP_ks l).isSome, decide_eq_decide.mpr m1]
  exact q

def sp_Slots_get (K : PySem.W.Frag) (D : Ad) : Sp := Sp2 fun x y H Q E => ∃ (al : Addr) (s : Sl) (m : Int) (kv : Kv) (k : Int) (B : Hp) (L : List Cell), x = .ref al ∧ y = .int k ∧ 0 ≤ k ∧ SlW D B H L al s m ∧ SlI s kv ∧
  ((∃ v, getP kv k = some v ∧ Q (.int v) H) ∨ (rz_Slots_sure ∧ k ∉ ksP kv ∧ ∀ d B' H', Same B B' → B' d = some (.xd [("key", .int k)]) → SlW D B' H' L al s m → E (.ref (cNK D)) (some d) H'))
def sp_Slots_many (K : PySem.W.Frag) (D : Ad) : Sp := Sp1 fun x H Q _ => ∃ (al dx : Addr) (s : Sl) (m : Int), x = .ref al ∧ H al = some (slO D dx s m) ∧ Q (.int m) H
def sp_Slots_moved (K : PySem.W.Frag) (D : Ad) : Sp := Sp1 fun x H Q _ => ∃ (al dx : Addr) (s : Sl) (m : Int), x = .ref al ∧ H al = some (slO D dx s m) ∧ Q (.int (s.s : Nat)) H
def bksL (x : Sl) : List Bk := x.o :: x.y.toList
def sp_Slots_banks (K : PySem.W.Frag) (D : Ad) : Sp := Sp1 fun x H Q _ => ∃ (al dx : Addr) (s : Sl) (m : Int) (B : Hp) (L : List Cell), x = .ref al ∧ H al = some (slO D dx s m) ∧ W B L H ∧ ∀ p B' H', Same B B' → B' p = some (.lst ((bksL s).map fun b => V.ref b.bo)) → W B' L H' → Q (.ref p) H'
section
variable {D : Ad} {B B' H H' : Hp} {L L' : List Cell} {al p : Addr} {x : Sl} {m : Int} {o o' : HO} {b : Bk} {kv : Kv}
theorem SlW.cell (h : SlW D B H ((p, o) :: L) al x m) : H p = some o := by
  obtain ⟨_, w⟩ := h.w
  exact w.get (List.mem_append_right _ (List.mem_cons_self ..))
theorem SlW.cellPut (h : SlW D B H ((p, o) :: L) al x m) (o' : HO) : SlW D B (upd H p o') ((p, o') :: L) al x m :=
  ⟨h.ob, h.yb, h.w.imp fun dx w => w.put o'⟩
theorem SlW.cellNew (h : SlW D B H L al x m) (hp : H p = none) (o : HO) : SlW D B (upd H p o) ((p, o) :: L) al x m :=
  ⟨h.ob, h.yb, h.w.imp fun dx w => (w.newL hp _).perm (List.perm_middle (l₁ := slC D al dx x m) (l₂ := L)).symm⟩
theorem SlW.cellOwn (h : SlW D B H L al x m) (s : Same H H') (hp : H p = none) (e : H' p = some o) : SlW D B H' ((p, o) :: L) al x m :=
  ⟨h.ob, h.yb, h.w.imp fun dx w => (w.own s hp e).perm (List.perm_middle (l₁ := slC D al dx x m) (l₂ := L)).symm⟩
theorem SlW.cellPerm (h : SlW D B H L al x m) (p : L.Perm L') : SlW D B H L' al x m := ⟨h.ob, h.yb, h.w.imp fun dx w => w.perm (p.append_left _)⟩
theorem SlW.get {p : Addr} {o : HO} (h : SlW D B H L al x m) (hm : (p, o) ∈ L) : H p = some o := by
  obtain ⟨_, w⟩ := h.w
  exact w.get (List.mem_append_right _ hm)
theorem SlW.at2 (h : SlW D B H L al x m) : ∃ A, W B A H ∧ ∀ B' H' X, Same B B' → W B' (X ++ A) H' → SlW D B' H' (X ++ L) al x m := by
  obtain ⟨dx, w⟩ := h.w
  refine ⟨_, w, fun B' H' X s w' => ⟨h.ob.mono s, fun b e => (h.yb b e).mono s, dx, w'.perm ?_⟩⟩
  rw [← List.append_assoc, ← List.append_assoc]
  exact List.perm_append_comm.append_right _
theorem SlW.cellDrop (h : SlW D B H ((p, o) :: L) al x m) : SlW D B H L al x m :=
  ⟨h.ob, h.yb, h.w.imp fun dx w => (w.perm (List.perm_middle (l₁ := slC D al dx x m) (l₂ := L))).drop1⟩
theorem SlW.cellGive (h : SlW D B H ((p, o) :: L) al x m) : ∃ B', Same B B' ∧ B' p = some o ∧ SlW D B' H L al x m := by
  obtain ⟨dx, w⟩ := h.w
  have w := w.perm (List.perm_middle (l₁ := slC D al dx x m) (l₂ := L))
  have s := same_new (o := o) (w.out _ (List.mem_cons_self ..))
  exact ⟨upd B p o, s, upd_same, h.ob.mono s, fun b e => (h.yb b e).mono s, dx, w.give⟩
end
def szsL (x : Sl) : List Int := (bksL x).map fun b => (b.ds.length : Int)
def sp_Slots_rows (K : PySem.W.Frag) (D : Ad) : Sp := Sp1 fun x H Q _ => ∃ (al : Addr) (s : Sl) (m : Int) (B : Hp) (L : List Cell), x = .ref al ∧ SlW D B H L al s m ∧ ∀ p B' H', Same B B' → SlW D B' H' ((p, .lst ((szsL s).map V.int)) :: L) al s m → Q (.ref p) H'
local macro_rules | `(tactic| wtm_at "s0") => `(tactic| first | with_reducible refine g_items ?_ | with_reducible refine g_bm ?_ | with_reducible refine g_sub ?_ | with_reducible refine g_fldaug ?_)
def sp_Slots_move_next (K : PySem.W.Frag) (D : Ad) : Sp := Sp1 fun x H Q _ => ∃ (al : Addr) (s : Sl) (m : Int) (kv : Kv) (B : Hp) (L : List Cell), x = .ref al ∧ kv.length < 1000 ∧ SlW D B H L al s m ∧ SlI s kv ∧
  ∀ B' H' s', Same B B' → SlW D B' H' L al s' m → SlI s' kv → s'.st = mvS s.st → Q .non H'
theorem ok_Slots_move_next {D : Ad} (T : Txt K mg D) : FnOk P w K mg base (L2.CX P w) 4 D.a_Slots_move_next D.d_Slots_move_next ["self"] (sp_Slots_move_next K D) := by
  refine T.F_Slots_move_next.okX sc_Slots_move_next (fun vs H Q E h => sp1_len h) (fun cdv A outer s H vs Q E hr h => ⟨_, (pss_cons (ps_if (pt_cmpR op_isNo (pe_fld (pv 0) rfl) pe_non (nomark _))
      (pss_one ps_retN)
      pss_nil)
    (pss_cons (ps_lock (ps_for (passes_of rfl) rfl (pi_items (pe_ix ix_list (pe_fld (pe_fld (pv 0) rfl) rfl) (pe_fld (pv 0) rfl) (fun _ _ => rfl))) (pg_tup (by rfl) (pgs_cons (pg_name (i := 1) sc_Slots_move_next.nd rfl (Or.inl rfl)) (pgs_cons (pg_name (i := 2) sc_Slots_move_next.nd rfl (Or.inl rfl)) pgs_nil)))
      (pss_one (ps_expr (pe_bm PySem.F.plainAttrs_dict PySem.F.slot_dict_update PySem.F.type_dict_update mt_update (pe_meth (pe_fld (pv 0) rfl) T.cl_Bank T.me_Bank_lot_of (ok_Bank_lot_of T) (hr.mono (by decide)) T.b_Bank_lot_of .nil pX (pa_cons (pv 1) pa_nil)) (pa_cons (pe_disp (pps_cons (pv 1) (pv 2) pps_nil) (by rfl) (by rfl) (fun z => by cases z) (by decide)) pa_nil))))))
    (pss_cons (ps_asg pe_dnewK (pg_sub (pe_fld (pe_fld (pv 0) rfl) rfl) (pe_fld (pv 0) rfl) set_list))
    (pss_cons (ps_fldaug (pv 0) pe_int in_add)
    (pss_one (ps_if (pt_cmpR op_eq (pe_fld (pv 0) rfl) (pe_fld (pe_fld (pv 0) rfl) rfl) (nomark _))
      (pss_cons (ps_fld (pv 0) (pe_fld (pv 0) rfl) rfl)
      (pss_cons (ps_fld (pv 0) pe_non rfl)
      (pss_one (ps_fld (pv 0) pe_int rfl))))
      pss_nil)))))), ?_⟩)
  obtain ⟨x0, rfl, h⟩ := h
  rw [show L2.start n_Slots_move_next [x0] = [some x0, none, none] from rfl]
  try dsimp only [cxOf]
  obtain ⟨al, s, m, kv, B, L, rfl, hlen, sw, si, q⟩ := h
  obtain ⟨dx, ho⟩ := sw.ob_
  unfold slO at ho
  wtm_at "go"
  refine r_fld ho T.cl_Slots T.na_Slots_young rfl ?_
  cases ey : s.y with
  | none =>
    dsimp only [yV]
    wtm_at "go"
    exact q B H s (same_refl _) sw si (by unfold Sl.st; rw [ey]; rfl)
  | some b =>
    obtain ⟨hsz, hbe⟩ := si.ye b ey
    have hb4 := (pow_sz hbe).1
    obtain ⟨d, ps, es⟩ : ∃ d ps, s.o.ds[s.s]? = some (d, ps) := ⟨_, _, List.getElem?_eq_getElem hsz⟩
    have hall : s.all = s.o.ds ++ b.ds := by unfold Sl.all Sl.yd; rw [ey]
    have hpl : ps.length ≤ kv.length := si.kvl (i := s.s) (d := d) (by rw [hall, List.getElem?_append_left hsz]; exact es)
    obtain ⟨dx', w⟩ := sw.w
    obtain rfl : dx' = dx := by
      have := w.get (List.mem_append_left _ (List.mem_cons_self ..))
      unfold slO at this
      rw [ho] at this
      cases this
      rfl
    have w : W B ((al, slO D dx' s m) :: laC s.o :: laC b :: (s.o.ds.take s.s).map lotC ++ (d, .dK (dkP ps)) :: ((s.o.ds.drop (s.s + 1)).map lotC ++ (b.ds.map lotC ++ L))) H := by
      unfold slC at w
      rw [ey, hall, List.map_append] at w
      have e1 : s.o.ds.map lotC = (s.o.ds.take s.s).map lotC ++ (d, .dK (dkP ps)) :: (s.o.ds.drop (s.s + 1)).map lotC := by
        conv => lhs; rw [at_split es]
        rw [List.map_append, List.map_cons]
        rfl
      rw [e1] at w
      simpa [yC, List.append_assoc] using w
    have hd := w.get (List.mem_append_right _ (List.mem_cons_self ..))
    have sob := sw.ob
    have syb := sw.yb b ey
    dsimp only [yV]
    wtm_at "g0"
    refine g_lock hd trivial fun od => ?_
    have w := W.put w (.frz od (.dK (dkP ps)))
    have w : W B (((al, slO D dx' s m) :: laC s.o :: laC b :: (s.o.ds.take s.s).map lotC ++ (d, .frz od (.dK (dkP ps))) :: (s.o.ds.drop (s.s + 1)).map lotC) ++ (b.ds.map lotC ++ L)) (upd H d (.frz od (.dK (dkP ps)))) := by simpa [List.append_assoc] using w
    have hlo : ∀ {B' : Hp} {R : List Cell} {H' : Hp}, W B' (((al, slO D dx' s m) :: laC s.o :: laC b :: (s.o.ds.take s.s).map lotC ++ (d, .frz od (.dK (dkP ps))) :: (s.o.ds.drop (s.s + 1)).map lotC) ++ R) H' → H' al = some (slO D dx' s m) ∧ H' s.o.la = some (.lst (rfL s.o.ds)) ∧ H' b.la = some (.lst (rfL b.ds)) ∧ H' d = some (.frz od (.dK (dkP ps))) := fun w =>
      ⟨w.get (by simp), w.get (by simp [laC]), w.get (by simp [laC]), w.get (by simp)⟩
    obtain ⟨o1, o2, o3, o4⟩ := hlo w
    unfold slO at o1
    obtain ⟨dxo, hbo⟩ := sob
    obtain ⟨dxy, hby⟩ := syb
    have eix : atI (rfL s.o.ds) (s.s : Int) = some (.ref d) := by rw [atI_nat' (by omega) (by rw [rfL_len]; omega), Int.toNat_natCast]; exact rfL_at es
    wtm_at "go"
    refine r_fld o1 T.cl_Slots T.na_Slots_old rfl ?_
    wtm_at "go"
    refine r_fld (w.rd hbo) T.cl_Bank T.na_Bank_lots rfl ?_
    wtm_at "go"
    refine r_fld o1 T.cl_Slots T.na_Slots_shifted rfl ?_
    wtm_at "go"
    refine r_ixL (SqL.of o2) eix ?_
    refine r_itm o4 ?_
    refine FOR.items (fun i σ H' => ∃ (v1 v2 : Option V) (B' : Hp), σ = [some (.ref al), v1, v2] ∧ Same B B' ∧ W B' (((al, slO D dx' s m) :: laC s.o :: laC b :: (s.o.ds.take s.s).map lotC ++ (d, .frz od (.dK (dkP ps))) :: (s.o.ds.drop (s.s + 1)).map lotC) ++ ((mvL b.ds (ps.take i)).map lotC ++ L)) H') ⟨none, none, B, rfl, same_refl _, w⟩ (fun i σ H' _ ⟨_, _, _, _, _, w⟩ => (hlo w).2.2.2) ?_ ?_
    · rintro i k0 v0 σ H1 T1 hi ⟨v1, v2, B1, rfl, s1, w⟩ hT
      obtain ⟨p, hp, rfl, rfl⟩ := dkP_at hi
      have s1 := same_trans s1 (same_new (w.freeB hT) (o := .tup [.int p.1, .int p.2]))
      have w := w.newB hT (.tup [.int p.1, .int p.2])
      have iT : upd B1 T1 (.tup [.int p.1, .int p.2]) T1 = some (.tup [.int p.1, .int p.2]) := upd_same
      generalize upd B1 T1 (.tup [.int p.1, .int p.2]) = B2 at *
      dsimp only [kV]
      have hln : (mvL b.ds (ps.take i)).length = b.ds.length := mvL_len _ _
      have hpk : 0 ≤ p.1 := by
        have hm : p ∈ ps := List.mem_of_getElem? hp
        have : p ∈ kv := si.pm.mem_iff.mp (kvL_mem.mpr ⟨s.s, (d, ps), by rw [hall, List.getElem?_append_left hsz]; exact es, hm⟩)
        exact si.nn _ (List.mem_map.mpr ⟨p, this, rfl⟩)
      have hmod := Nat.mod_lt p.1.toNat (show 0 < (mvL b.ds (ps.take i)).length by omega)
      obtain ⟨d', l', ed'⟩ : ∃ d' l', (mvL b.ds (ps.take i))[p.1.toNat % (mvL b.ds (ps.take i)).length]? = some (d', l') := ⟨_, _, List.getElem?_eq_getElem hmod⟩
      obtain ⟨o1, o2, o3, o4⟩ := hlo w
      have hl1000 : l'.length < 2000 := by
        have h1 := (kvL_at ed').length_eq
        have h2 := mvL_kvl (ps.take i) b.ds
        have h3 := si.pm.length_eq
        rw [hall, kvL_app, List.length_append] at h3
        rw [List.length_append] at h1
        rw [List.length_take] at h2
        omega
      unfold slO at o1
      wtm_at "go"
      refine r_fld o1 T.cl_Slots T.na_Slots_young (by rw [ey]; rfl) ?_
      wtm_at "go"
      refine r_meth (w.rd (s1 _ _ hby)) rfl ?_
      wtm_at "go"
      refine ⟨_, _, rfl, { b with ds := mvL b.ds (ps.take i) }, p.1, d', l', rfl, rfl, hpk, ⟨dxy, by rw [show ({ b with ds := mvL b.ds (ps.take i) } : Bk).ds.length = b.ds.length from hln]; exact w.rd (s1 _ _ hby)⟩, by rw [show rfL ({ b with ds := mvL b.ds (ps.take i) } : Bk).ds = rfL b.ds from rfL_mvL _ _]; exact o3, by rw [show ({ b with ds := mvL b.ds (ps.take i) } : Bk).ds.length = b.ds.length from hln]; exact hbe, ed', ?_⟩
      have hd' := W.lotG w ed'
      refine r_bmD hd' ?_
      wtm_at "go"
      refine g_disp1 fun p2 hp2 => ?_
      wtm_at "go"
      refine r_disp1 upd_same ?_
      rw [upd_upd]
      have hne : p2 ≠ d' := fun z => by rw [z, hd'] at hp2; cases hp2
      have s1 := same_trans s1 (same_new (w.freeB hp2) (o := .dK [(Sum.inl p.1, .int p.2)]))
      have w := w.newB hp2 (.dK [(Sum.inl p.1, .int p.2)])
      wtm_at "go"
      refine r_upd1 hne (by rw [upd_ne (Ne.symm hne)]; exact hd') upd_same (szlt (by omega)) ?_
      have w := W.lot w ed' (putP l' p.1 p.2)
      rw [← mv1_at (by omega) ed', ← mvL_take hp] at w
      wtm_at "go"
      exact ⟨_, _, _, rfl, s1, w⟩
    · rintro σ H1 ⟨v1, v2, B1, rfl, s1, w⟩
      rw [dkP_len, List.take_length] at w
      refine ⟨(hlo w).2.2.2, ?_⟩
      have w : W B1 (((al, slO D dx' s m) :: laC s.o :: laC b :: (s.o.ds.take s.s).map lotC) ++ (d, .frz od (.dK (dkP ps))) :: ((s.o.ds.drop (s.s + 1)).map lotC ++ ((mvL b.ds ps).map lotC ++ L))) H1 := by simpa [List.append_assoc] using w
      have w := W.put w (.dK (dkP ps))
      obtain ⟨o1, o2, o3⟩ : upd H1 d (.dK (dkP ps)) al = some (slO D dx' s m) ∧ upd H1 d (.dK (dkP ps)) s.o.la = some (.lst (rfL s.o.ds)) ∧ upd H1 d (.dK (dkP ps)) b.la = some (.lst (rfL b.ds)) := ⟨w.get (by simp), w.get (by simp [laC]), w.get (by simp [laC])⟩
      generalize upd H1 d (.dK (dkP ps)) = H2 at *
      wtm_at "go"
      refine o_dnew w fun d2 H3 hd2 w => ?_
      have w := W.inst w
      obtain ⟨o1, o2, o3⟩ : H3 al = some (slO D dx' s m) ∧ H3 s.o.la = some (.lst (rfL s.o.ds)) ∧ H3 b.la = some (.lst (rfL b.ds)) := ⟨w.get (by simp), w.get (by simp [laC]), w.get (by simp [laC])⟩
      unfold slO at o1
      have hbo := s1 _ _ hbo
      have hby := s1 _ _ hby
      wtm_at "go"
      refine r_fld o1 T.cl_Slots T.na_Slots_old rfl ?_
      wtm_at "go"
      refine r_fld (w.rd hbo) T.cl_Bank T.na_Bank_lots rfl ?_
      wtm_at "go"
      refine r_fld o1 T.cl_Slots T.na_Slots_shifted rfl ?_
      refine r_setL o2 (by rw [rfL_len]; exact hsz) ?_
      have w := W.put1 w (.lst ((rfL s.o.ds).set s.s (.ref d2)))
      have o1 : upd H3 s.o.la (.lst ((rfL s.o.ds).set s.s (.ref d2))) al = some (slO D dx' s m) := w.get (by simp)
      have o3 : upd H3 s.o.la (.lst ((rfL s.o.ds).set s.s (.ref d2))) b.la = some (.lst (rfL b.ds)) := w.get (by simp [laC])
      generalize upd H3 s.o.la (.lst ((rfL s.o.ds).set s.s (.ref d2))) = H4 at *
      unfold slO at o1
      wtm_at "go"
      refine r_augA o1 T.cl_Slots T.na_Slots_shifted rfl (show (4 : Nat) < 1000 by decide) ?_
      have w : W B1 ((al, .ins D.c_Slots dx' [("old", .ref s.o.bo), ("young", yV s.y), ("shifted", .int ((s.s : Nat) + 1)), ("number", .int m)]) :: _) (upd H4 al (.ins D.c_Slots dx' (putF "shifted" (.int ((s.s : Nat) + 1)) [("old", .ref s.o.bo), ("young", yV s.y), ("shifted", .int (s.s : Nat)), ("number", .int m)]))) := W.put0 w (.ins D.c_Slots dx' [("old", .ref s.o.bo), ("young", yV s.y), ("shifted", .int ((s.s : Nat) + 1)), ("number", .int m)])
      have o1 : upd H4 al (.ins D.c_Slots dx' (putF "shifted" (.int ((s.s : Nat) + 1)) [("old", .ref s.o.bo), ("young", yV s.y), ("shifted", .int (s.s : Nat)), ("number", .int m)])) al = some (.ins D.c_Slots dx' [("old", .ref s.o.bo), ("young", yV s.y), ("shifted", .int ((s.s : Nat) + 1)), ("number", .int m)]) := upd_same
      generalize upd H4 al (.ins D.c_Slots dx' (putF "shifted" (.int ((s.s : Nat) + 1)) [("old", .ref s.o.bo), ("young", yV s.y), ("shifted", .int (s.s : Nat)), ("number", .int m)])) = H5 at *
      have hlc : laC b = (b.la, .lst (rfL (mvL b.ds ps))) := by rw [rfL_mvL]; rfl
      have hset : (s.o.ds.set s.s (d2, [])).map lotC = (s.o.ds.take s.s).map lotC ++ (d2, .dK []) :: (s.o.ds.drop (s.s + 1)).map lotC := by rw [set_split es, List.map_append, List.map_cons]; rfl
      have hrf : (rfL s.o.ds).set s.s (.ref d2) = rfL (s.o.ds.set s.s (d2, [])) := by unfold rfL; rw [List.map_set]
      have hmo := si.move (d2 := d2) ey es
      have hst := Sl.moved_st (x := s) (d2 := d2) (ps := ps) ey
      have hbk : BkB D B1 { b with ds := mvL b.ds ps } := ⟨dxy, by rw [show ({ b with ds := mvL b.ds ps } : Bk).ds.length = b.ds.length from mvL_len _ _]; exact hby⟩
      have w : W B1 ((al, .ins D.c_Slots dx' [("old", .ref s.o.bo), ("young", yV s.y), ("shifted", .int ((s.s : Nat) + 1)), ("number", .int m)]) :: (s.o.la, .lst ((rfL s.o.ds).set s.s (.ref d2))) :: laC b :: ((s.o.ds.set s.s (d2, [])).map lotC ++ ((mvL b.ds ps).map lotC ++ L))) H5 := by
        rw [hset]
        simpa [List.append_assoc] using w
      unfold Sl.moved at hmo hst
      wtm_at "go"
      refine r_fld o1 T.cl_Slots T.na_Slots_shifted rfl ?_
      wtm_at "go"
      refine r_fld o1 T.cl_Slots T.na_Slots_old rfl ?_
      wtm_at "go"
      refine r_fld (w.rd hbo) T.cl_Bank T.na_Bank_size rfl ?_
      wtm_at "go"
      wtm_at "br"
      · intro c
        have c : s.s + 1 = s.o.ds.length := by omega
        rw [if_pos c] at hmo hst
        have w := w.sl (L' := (al, .ins D.c_Slots dx' [("old", .ref s.o.bo), ("young", yV s.y), ("shifted", .int ((s.s : Nat) + 1)), ("number", .int m)]) :: laC b :: ((mvL b.ds ps).map lotC ++ L)) (List.Sublist.cons₂ _ (List.Sublist.cons _ (List.Sublist.cons₂ _ (List.sublist_append_right _ _))))
        wtm_at "go"
        refine r_fld o1 T.cl_Slots T.na_Slots_young (by rw [ey]; rfl) ?_
        wtm_at "go"
        refine r_sfld o1 T.cl_Slots T.na_Slots_old (show (4 : Nat) < 1000 by decide) ?_
        have w := W.put0 w (.ins D.c_Slots dx' [("old", .ref b.bo), ("young", yV s.y), ("shifted", .int ((s.s : Nat) + 1)), ("number", .int m)])
        have o1 := w.get (List.mem_cons_self ..)
        wtm_at "go"
        refine r_sfld o1 T.cl_Slots T.na_Slots_young (show (4 : Nat) < 1000 by decide) ?_
        have w := W.put0 w (.ins D.c_Slots dx' [("old", .ref b.bo), ("young", .non), ("shifted", .int ((s.s : Nat) + 1)), ("number", .int m)])
        have o1 := w.get (List.mem_cons_self ..)
        wtm_at "go"
        refine r_sfld o1 T.cl_Slots T.na_Slots_shifted (show (4 : Nat) < 1000 by decide) ?_
        have w := W.put0 w (.ins D.c_Slots dx' [("old", .ref b.bo), ("young", .non), ("shifted", .int 0), ("number", .int m)])
        refine q B1 _ _ s1 ⟨hbk, (fun b' e => by cases e), dx', ?_⟩ hmo hst
        show W B1 ((al, .ins D.c_Slots dx' [("old", .ref b.bo), ("young", .non), ("shifted", .int 0), ("number", .int m)]) :: (b.la, .lst (rfL (mvL b.ds ps))) :: ((mvL b.ds ps ++ []).map lotC) ++ L) _
        rw [List.append_nil, ← hlc]
        exact w
      · intro c
        have c : ¬ s.s + 1 = s.o.ds.length := by omega
        rw [if_neg c] at hmo hst
        refine q B1 _ _ s1 ⟨⟨dxo, by show B1 s.o.bo = some (.ins _ _ [("size", .int ((s.o.ds.set _ _).length : Nat)), _]); rw [List.length_set]; exact hbo⟩, fun b' e => by cases e; exact hbk, dx', ?_⟩ hmo hst
        show W B1 ((al, .ins D.c_Slots dx' [("old", .ref s.o.bo), ("young", .ref b.bo), ("shifted", .int ((s.s + 1 : Nat) : Int)), ("number", .int m)]) :: (s.o.la, .lst (rfL (s.o.ds.set s.s (d2, [])))) :: ((b.la, .lst (rfL (mvL b.ds ps))) :: ((s.o.ds.set s.s (d2, []) ++ mvL b.ds ps).map lotC)) ++ L) _
        rw [← hlc, ← hrf, List.map_append]
        rw [ey] at w
        simpa [List.append_assoc, yV] using w

def sp_Slots_begin_row (K : PySem.W.Frag) (D : Ad) : Sp := Sp1 fun x H Q _ => ∃ (al : Addr) (s : Sl) (m : Nat) (kv : Kv) (B : Hp) (L : List Cell), x = .ref al ∧ SlW D B H L al s m ∧ SlI s kv ∧
  ∀ B' H' s', Same B B' → SlW D B' H' L al s' m → SlI s' kv → s'.st = bgS m s.st → Q .non H'
theorem ok_Slots_begin_row {D : Ad} (T : Txt K mg D) : FnOk P w K mg base (L2.CX P w) 3 D.a_Slots_begin_row D.d_Slots_begin_row ["self"] (sp_Slots_begin_row K D) := by
  refine T.F_Slots_begin_row.okX sc_Slots_begin_row (fun vs H Q E h => sp1_len h) (fun cdv A outer s H vs Q E hr h => ⟨_, (pss_cons (ps_set (i := 1) sc_Slots_begin_row.nd rfl (Or.inl rfl) (pe_fld (pe_fld (pv 0) rfl) rfl))
    (pss_one (ps_if (PW.pt (pw_and (pt_cmpR op_isNo (pe_fld (pv 0) rfl) pe_non (nomark _)) (pw_and (pt_cmpR op_gt (pe_fld (pv 0) rfl) (pv 1) (nomark _)) (pw_and1 (pt_cmpR op_lt (pv 1) (pe_glob (v := .int 256) rfl T.k_MOST_SIZE ⟨_, rfl⟩) (nomark _))))))
      (pss_one (ps_fld (pv 0) (pe_make T.mk_Bank (ok_Bank_init T) (hr.mono (by decide)) rfl T.g_Bank T.b_Bank_init .nil pX (pa_cons (pe_op op_mul pe_int (pv 1)) pa_nil)) rfl))
      (pss_one (ps_if (PW.pt (pw_and (pt_cmpR op_isNo (pe_fld (pv 0) rfl) pe_non (nomark _)) (pw_and (pt_cmpR op_lt (pe_op op_mul pe_int (pe_fld (pv 0) rfl)) (pv 1) (nomark _)) (pw_and1 (pt_cmpR op_gt (pv 1) (pe_glob (v := .int 4) rfl T.k_LEAST_SIZE ⟨_, rfl⟩) (nomark _))))))
        (pss_one (ps_fld (pv 0) (pe_make T.mk_Bank (ok_Bank_init T) (hr.mono (by decide)) rfl T.g_Bank T.b_Bank_init .nil pX (pa_cons (pe_op op_fdiv (pv 1) pe_int) pa_nil)) rfl))
        pss_nil))))), ?_⟩)
  obtain ⟨x0, rfl, h⟩ := h
  rw [show L2.start n_Slots_begin_row [x0] = [some x0, none] from rfl]
  try dsimp only [cxOf]
  obtain ⟨al, s, m, kv, B, L, rfl, sw, si, q⟩ := h
  obtain ⟨dx, ho⟩ := sw.ob_
  unfold slO at ho
  obtain ⟨dxo, hbo⟩ := sw.bo
  wtm_at "go"
  refine r_fld ho T.cl_Slots T.na_Slots_old rfl ?_
  wtm_at "go"
  refine r_fld hbo T.cl_Bank T.na_Bank_size rfl ?_
  wtm_at "go"
  refine r_fld ho T.cl_Slots T.na_Slots_young rfl ?_
  obtain ⟨dx', w⟩ := sw.w
  obtain rfl : dx' = dx := by
    have := w.get (List.mem_append_left _ (List.mem_cons_self ..))
    unfold slO at this
    rw [ho] at this
    cases this
    rfl
  obtain ⟨e, e2, e8, he⟩ := si.ze
  cases ey : s.y with
  | some b =>
    dsimp only [yV]
    have same := q B H s (same_refl _) sw si (by unfold Sl.st; rw [ey]; rfl)
    wtm_at "go"
    refine r_fld ho T.cl_Slots T.na_Slots_young rfl ?_
    rw [ey]
    dsimp only [yV]
    wtm_at "go"
    exact same
  | none =>
    have fin : ∀ {e' : Nat} {P : V → Hp → Prop}, 2 ≤ e' → e' ≤ 8 → nrow s.o.ds.length m = some (2 ^ e') → (∀ H', Q .non H' → P .non H') → ∀ (b : Bk) (B1 H1 : Hp), b.ds.length = 2 ^ e' → (∀ z ∈ b.ds, z.2 = []) → Same B B1 → BkB D B1 b → W B1 (laC b :: (b.ds.map lotC ++ (slC D al dx' s m ++ L))) H1 → rStF K "young" (P .non) (.ref b.bo) (.ref al) H1 := by
      intro e' P h2 h8 hn hP b B1 H1 hl hz s1 ib w
      have hall : s.all = s.o.ds := by unfold Sl.all Sl.yd; rw [ey]; exact List.append_nil _
      have w : W B1 ((al, .ins D.c_Slots dx' [("old", .ref s.o.bo), ("young", .non), ("shifted", .int (s.s : Nat)), ("number", .int m)]) :: laC s.o :: laC b :: (s.o.ds.map lotC ++ (b.ds.map lotC ++ L))) H1 := by
        refine w.perm ?_
        unfold slC slO
        rw [ey, hall]
        simp only [yC, yV, List.nil_append, List.cons_append, List.append_assoc]
        generalize b.ds.map lotC = u1
        generalize s.o.ds.map lotC = u2
        generalize laC b = c1
        generalize laC s.o = c2
        generalize (al, HO.ins D.c_Slots dx' [("old", V.ref s.o.bo), ("young", V.non), ("shifted", V.int (s.s : Nat)), ("number", V.int m)]) = c3
        have p1 : (c1 :: (u1 ++ c3 :: c2 :: (u2 ++ L))).Perm (c1 :: c3 :: (u1 ++ c2 :: (u2 ++ L))) := List.perm_middle.cons _
        have p2 : (c1 :: c3 :: (u1 ++ c2 :: (u2 ++ L))).Perm (c1 :: c3 :: c2 :: (u1 ++ (u2 ++ L))) := (List.perm_middle.cons _).cons _
        have p3 : (u1 ++ (u2 ++ L)).Perm (u2 ++ (u1 ++ L)) := by
          rw [← List.append_assoc, ← List.append_assoc]
          exact List.perm_append_comm.append_right _
        have p4 : (c1 :: c3 :: c2 :: (u2 ++ (u1 ++ L))).Perm (c3 :: c2 :: c1 :: (u2 ++ (u1 ++ L))) := (List.Perm.swap _ _ _).trans ((List.Perm.swap _ _ _).cons _)
        exact p1.trans (p2.trans ((((p3.cons _).cons _).cons _).trans p4))
      refine r_sfld (w.get (List.mem_cons_self ..)) T.cl_Slots T.na_Slots_young (show (4 : Nat) < 1000 by decide) ?_
      have w := W.put0 w (.ins D.c_Slots dx' [("old", .ref s.o.bo), ("young", .ref b.bo), ("shifted", .int (s.s : Nat)), ("number", .int m)])
      refine hP _ (q B1 _ { s with y := some b } s1 ⟨sw.ob.mono s1, (fun b' e => by cases e; exact ib), dx', ?_⟩ (si.begin ey hz ⟨e', h2, h8, hl⟩) ?_)
      · show W B1 ((al, .ins D.c_Slots dx' [("old", .ref s.o.bo), ("young", .ref b.bo), ("shifted", .int (s.s : Nat)), ("number", .int m)]) :: laC s.o :: ([laC b] ++ (s.o.ds ++ b.ds).map lotC) ++ L) _
        rw [List.map_append]
        have w2 : W B1 ((al, .ins D.c_Slots dx' [("old", .ref s.o.bo), ("young", .ref b.bo), ("shifted", .int (s.s : Nat)), ("number", .int m)]) :: laC s.o :: ([laC b] ++ (s.o.ds.map lotC ++ b.ds.map lotC)) ++ L) (upd H1 al (.ins D.c_Slots dx' [("old", .ref s.o.bo), ("young", .ref b.bo), ("shifted", .int (s.s : Nat)), ("number", .int m)])) := by simpa [List.append_assoc] using w
        exact w2
      · show (s.o.ds.length, some b.ds.length, s.s) = bgS m s.st
        unfold Sl.st
        rw [ey, hl]
        show _ = (s.o.ds.length, nrow s.o.ds.length m, s.s)
        rw [hn]
    have same : nrow s.o.ds.length m = none → Q .non H := fun hn => q B H s (same_refl _) sw si (by
      unfold Sl.st
      rw [ey]
      show _ = (s.o.ds.length, nrow s.o.ds.length m, s.s)
      rw [hn]
      rfl)
    clear q
    have hz4 := (pow_sz si.ze).1
    rw [ey] at ho
    dsimp only [yV] at ho ⊢
    by_cases c1 : (s.o.ds.length : Int) < m
    · by_cases c2 : (s.o.ds.length : Int) < 256
      · have he8 : e + 1 ≤ 8 := by
          have : 2 ^ e < 2 ^ 8 := by rw [← he]; omega
          have := (Nat.pow_lt_pow_iff_right (a := 2) (by decide)).mp this
          omega
        wtm_at "go"
        refine r_fld ho T.cl_Slots T.na_Slots_number rfl ?_
        wtm_at "go"
        refine mk_bank (e := e + 1) (by rw [he, Nat.pow_succ]; congr 1; push_cast; omega) w he8 fun b B1 H1 hl hz s1 ib w => ?_
        wtm_at "go"
        exact fin (by omega) he8 (by unfold nrow; rw [if_pos (by omega), he, Nat.pow_succ]; congr 1; omega) (fun _ h => h) b B1 H1 hl hz s1 ib w
      · by_cases c3 : 4 * (m : Int) < s.o.ds.length
        · exact absurd c3 (by omega)
        · wtm_at "go"
          refine r_fld ho T.cl_Slots T.na_Slots_number rfl ?_
          wtm_at "go"
          refine r_fld ho T.cl_Slots T.na_Slots_young rfl ?_
          wtm_at "go"
          refine r_fld ho T.cl_Slots T.na_Slots_number rfl ?_
          wtm_at "go"
          exact same (by unfold nrow; rw [if_neg (by omega), if_neg (by omega)])
    · by_cases c3 : 4 * (m : Int) < s.o.ds.length
      · by_cases c4 : (4 : Int) < s.o.ds.length
        · obtain ⟨e', rfl⟩ : ∃ e', e = e' + 1 := ⟨e - 1, by omega⟩
          have hz2 : s.o.ds.length / 2 = 2 ^ e' := by rw [he, Nat.pow_succ]; omega
          have he2 : 2 ≤ e' := by
            have : 2 ^ 2 < 2 ^ (e' + 1) := by rw [← he]; omega
            have := (Nat.pow_lt_pow_iff_right (a := 2) (by decide)).mp this
            omega
          wtm_at "go"
          refine r_fld ho T.cl_Slots T.na_Slots_number rfl ?_
          wtm_at "go"
          refine r_fld ho T.cl_Slots T.na_Slots_young rfl ?_
          wtm_at "go"
          refine r_fld ho T.cl_Slots T.na_Slots_number rfl ?_
          wtm_at "go"
          refine mk_bank (e := e') (by rw [← hz2]; congr 1) w (by omega) fun b B1 H1 hl hz s1 ib w => ?_
          wtm_at "go"
          exact fin he2 (by omega) (by unfold nrow; rw [if_neg (by omega), if_pos (by omega), hz2]) (fun _ h => h) b B1 H1 hl hz s1 ib w
        · wtm_at "go"
          refine r_fld ho T.cl_Slots T.na_Slots_number rfl ?_
          wtm_at "go"
          refine r_fld ho T.cl_Slots T.na_Slots_young rfl ?_
          wtm_at "go"
          refine r_fld ho T.cl_Slots T.na_Slots_number rfl ?_
          wtm_at "go"
          exact same (by unfold nrow; rw [if_neg (by omega), if_neg (by omega)])
      · wtm_at "go"
        refine r_fld ho T.cl_Slots T.na_Slots_number rfl ?_
        wtm_at "go"
        refine r_fld ho T.cl_Slots T.na_Slots_young rfl ?_
        wtm_at "go"
        refine r_fld ho T.cl_Slots T.na_Slots_number rfl ?_
        wtm_at "go"
        exact same (by unfold nrow; rw [if_neg (by omega), if_neg (by omega)])

theorem SlW.num {D : Ad} {B H : Hp} {L : List Cell} {al dx : Addr} {x : Sl} {m : Int} (h : SlW D B H L al x m) (ho : H al = some (slO D dx x m)) (m' : Int) : SlW D B (upd H al (slO D dx x m')) L al x m' := by
  obtain ⟨dx', w⟩ := h.w
  obtain rfl : dx' = dx := by
    have := w.get (List.mem_append_left _ (List.mem_cons_self ..))
    unfold slO at this ho
    rw [ho] at this
    cases this
    rfl
  exact ⟨h.ob, h.yb, dx', W.put0 w (slO D dx' x m')⟩
theorem putP_len (kv : Kv) (k v : Int) : (putP kv k v).length = if k ∈ ksP kv then kv.length else kv.length + 1 := by
  by_cases c : k ∈ ksP kv
  · rw [if_pos c, putP_old c, List.length_map]
  · rw [if_neg c, putP_new c, List.length_append, List.length_singleton]
def sp_Slots_put (K : PySem.W.Frag) (D : Ad) : Sp := Sp3 fun x y z H Q _ => ∃ (al : Addr) (s : Sl) (kv : Kv) (k v : Int) (B : Hp) (L : List Cell), x = .ref al ∧ y = .int k ∧ z = .int v ∧ 0 ≤ k ∧ kv.length < 1000 ∧ SlW D B H L al s (kv.length : Nat) ∧ SlI s kv ∧
  ∀ B' H' s', Same B B' → SlW D B' H' L al s' ((putP kv k v).length : Nat) → SlI s' (putP kv k v) → s'.st = turnS (putP kv k v).length s.st → Q .non H'
theorem ok_Slots_put {D : Ad} (T : Txt K mg D) : FnOk P w K mg base (L2.CX P w) 5 D.a_Slots_put D.d_Slots_put ["self", "key", "value"] (sp_Slots_put K D) := by
  refine T.F_Slots_put.okX sc_Slots_put (fun vs H Q E h => sp3_len h) (fun cdv A outer s H vs Q E hr h => ⟨_, (pss_cons (ps_expr (pe_meth0 (pv 0) T.cl_Slots T.me_Slots_move_next (ok_Slots_move_next T) (hr.mono (by decide)) T.b_Slots_move_next .nil pX))
    (pss_cons (ps_set (i := 3) sc_Slots_put.nd rfl (Or.inl rfl) (pe_meth (pv 0) T.cl_Slots T.me_Slots_home (ok_Slots_home T) (hr.mono (by decide)) T.b_Slots_home .nil pX (pa_cons (pv 1) pa_nil)))
    (pss_cons (ps_if (pt_cmp (pc_dnotin (hu_of hr) (pv 1) (pv 3)))
      (pss_one (ps_fldaug (pv 0) pe_int in_add))
      pss_nil)
    (pss_cons (ps_dput (hu_of hr) (pv 3) (pv 1) (pv 2) rfl)
    (pss_one (ps_expr (pe_meth0 (pv 0) T.cl_Slots T.me_Slots_begin_row (ok_Slots_begin_row T) (hr.mono (by decide)) T.b_Slots_begin_row .nil pX))))))), ?_⟩)
  obtain ⟨x0, x1, x2, rfl, h⟩ := h
  rw [show L2.start n_Slots_put [x0, x1, x2] = [some x0, some x1, some x2, none] from rfl]
  try dsimp only [cxOf]
  obtain ⟨al, s, kv, k, v, B, L, rfl, rfl, rfl, h0, hlen, sw, si, q⟩ := h
  obtain ⟨dx, ho⟩ := sw.ob_
  wtm_at "go"
  refine r_meth ho rfl ?_
  wtm_at "go"
  refine ⟨_, rfl, al, s, _, kv, B, L, rfl, hlen, sw, si, fun B1 H1 s1 e1 sw si est => ?_⟩
  obtain ⟨dx, ho⟩ := sw.ob_
  wtm_at "go"
  refine r_meth ho rfl ?_
  wtm_at "go"
  refine ⟨_, _, rfl, al, s1, _, kv, k, B1, L, rfl, rfl, h0, sw, si, fun d l ed => ?_⟩
  obtain ⟨n1, m1, g1, n2⟩ := si.home ed
  have hd := sw.lot ed
  have hll := si.kvl ed
  have hpl := putP_len kv k v
  wtm_at "g0"
  refine g_ifJ (fun σ H' => σ = [some (.ref al), some (.int k), some (.int v), some (.ref d)] ∧ SlW D B1 H' L al s1 ((putP kv k v).length : Nat)) ?_ ?_
  · rintro σ H' ⟨rfl, sw⟩
    have hd := sw.lot ed
    wtm_at "go"
    refine r_dpu hd (szlt (by rw [dkP_len]; omega)) ?_
    rw [dkP_put]
    have sw := sw.put ed (putP l k v)
    have si := si.put (v := v) h0 ed
    obtain ⟨dx, ho⟩ := sw.ob_
    wtm_at "go"
    refine r_meth ho rfl ?_
    wtm_at "go"
    refine ⟨_, rfl, al, _, _, _, B1, L, rfl, sw, si, fun B2 H2 s2 e2 sw si est2 => ?_⟩
    wtm_at "go"
    refine q B2 H2 s2 (same_trans e1 e2) sw si ?_
    rw [est2, Sl.set_st, est]
    rfl
  · intro N hN
    wtm_at "go"
    refine r_dni hd ?_
    rw [(dkP_ks l).isSome, decide_eq_decide.mpr m1]
    by_cases c : k ∈ ksP kv
    · rw [if_pos c] at hpl
      wtm_at "go"
      exact hN _ _ ⟨rfl, by rw [hpl]; exact sw⟩
    · rw [if_neg c] at hpl
      wtm_at "go"
      have ho2 := ho
      unfold slO at ho2
      refine r_augA ho2 T.cl_Slots T.na_Slots_number rfl (show (4 : Nat) < 1000 by decide) ?_
      have sw := sw.num ho ((putP kv k v).length : Nat)
      refine hN _ _ ⟨rfl, ?_⟩
      rw [hpl] at sw ⊢
      exact sw

def sp_Slots_drop (K : PySem.W.Frag) (D : Ad) : Sp := Sp2 fun x y H Q E => ∃ (al : Addr) (s : Sl) (kv : Kv) (k : Int) (B : Hp) (L : List Cell), x = .ref al ∧ y = .int k ∧ 0 ≤ k ∧ kv.length < 1000 ∧ SlW D B H L al s (kv.length : Nat) ∧ SlI s kv ∧
  ((k ∈ ksP kv ∧ ∀ B' H' s', Same B B' → SlW D B' H' L al s' ((delP kv k).length : Nat) → SlI s' (delP kv k) → s'.st = turnS (delP kv k).length s.st → Q .non H') ∨
  (rz_Slots_sure ∧ k ∉ ksP kv ∧ ∀ d B' H', Same B B' → B' d = some (.xd [("key", .int k)]) → SlW D B' H' L al s (kv.length : Nat) → E (.ref (cNK D)) (some d) H'))
theorem ok_Slots_drop {D : Ad} (T : Txt K mg D) : FnOk P w K mg base (L2.CX P w) 6 D.a_Slots_drop D.d_Slots_drop ["self", "key"] (sp_Slots_drop K D) := by
  refine T.F_Slots_drop.okX sc_Slots_drop (fun vs H Q E h => sp2_len h) (fun cdv A outer s H vs Q E hr h => ⟨_, (pss_cons (ps_expr (pe_meth (pv 0) T.cl_Slots T.me_Slots_sure (ok_Slots_sure T) (hr.mono (by decide)) T.b_Slots_sure .nil pX (pa_cons (pv 1) pa_nil)))
    (pss_cons (ps_expr (pe_meth0 (pv 0) T.cl_Slots T.me_Slots_move_next (ok_Slots_move_next T) (hr.mono (by decide)) T.b_Slots_move_next .nil pX))
    (pss_cons (ps_expr (pe_dpop1 (pe_meth (pv 0) T.cl_Slots T.me_Slots_home (ok_Slots_home T) (hr.mono (by decide)) T.b_Slots_home .nil pX (pa_cons (pv 1) pa_nil)) (pv 1) ⟨rfl, by rfl, rfl, rfl⟩))
    (pss_cons (ps_fldaug (pv 0) pe_int in_sub)
    (pss_one (ps_expr (pe_meth0 (pv 0) T.cl_Slots T.me_Slots_begin_row (ok_Slots_begin_row T) (hr.mono (by decide)) T.b_Slots_begin_row .nil pX))))))), ?_⟩)
  obtain ⟨x0, x1, rfl, h⟩ := h
  rw [show L2.start n_Slots_drop [x0, x1] = [some x0, some x1] from rfl]
  try dsimp only [cxOf]
  obtain ⟨al, s, kv, k, B, L, rfl, rfl, h0, hlen, sw, si, hq⟩ := h
  obtain ⟨dx, ho⟩ := sw.ob_
  wtm_at "go"
  refine r_meth ho rfl ?_
  wtm_at "go"
  refine ⟨_, _, rfl, al, s, _, kv, k, B, L, rfl, rfl, h0, sw, si, ?_⟩
  rcases hq with ⟨hk, q⟩ | ⟨hz, hk, q⟩
  rotate_left
  · exact .inr ⟨hz, hk, fun d B' H' s1 i sw => q d B' H' s1 i sw⟩
  refine .inl ⟨hk, fun d0 l0 ed0 => ?_⟩
  wtm_at "go"
  refine r_meth ho rfl ?_
  wtm_at "go"
  refine ⟨_, rfl, al, s, _, kv, B, L, rfl, hlen, sw, si, fun B1 H1 s1 e1 sw si est => ?_⟩
  obtain ⟨dx, ho⟩ := sw.ob_
  wtm_at "go"
  refine g_dpop1 ?_
  wtm_at "go"
  refine r_meth ho rfl ?_
  wtm_at "go"
  refine ⟨_, _, rfl, al, s1, _, kv, k, B1, L, rfl, rfl, h0, sw, si, fun d l ed => ?_⟩
  obtain ⟨n1, m1, g1, n2⟩ := si.home ed
  have hd := sw.lot ed
  obtain ⟨v, hv⟩ := getP_ex hk
  refine r_dpop1 (isD_of hd) ?_
  wtm_at "go"
  refine r_dp1 hd (v := .int v) (by rw [dkP_get, g1, hv]; rfl) ?_
  rw [dkP_del]
  have nd := si.nd
  have sw := sw.put ed (delP l k)
  have si := si.del ed
  obtain ⟨dx, ho⟩ := sw.ob_
  have ho2 := ho
  unfold slO at ho2
  have hdl := del_len nd hk
  wtm_at "go"
  refine r_augS ho2 T.cl_Slots T.na_Slots_number rfl (show (4 : Nat) < 1000 by decide) ?_
  have sw := sw.num ho ((delP kv k).length : Nat)
  have hnum : ((kv.length : Nat) : Int) - 1 = ((delP kv k).length : Nat) := by omega
  rw [hnum]
  obtain ⟨dx, ho⟩ := sw.ob_
  wtm_at "go"
  refine r_meth ho rfl ?_
  wtm_at "go"
  refine ⟨_, rfl, al, _, _, _, B1, L, rfl, sw, si, fun B2 H2 s2 e2 sw si est2 => ?_⟩
  wtm_at "go"
  refine q B2 H2 s2 (same_trans e1 e2) sw si ?_
  rw [est2, Sl.set_st, est]
  rfl

theorem SlI_new {x : Sl} (hy : x.y = none) (hs : x.s = 0) (hl : x.o.ds.length = 4) (he : ∀ z ∈ x.o.ds, z.2 = []) : SlI x [] := by
  have hall : x.all = x.o.ds := by unfold Sl.all Sl.yd; rw [hy]; exact List.append_nil _
  refine ⟨⟨2, by decide, by decide, hl⟩, fun _ => hs, (fun b e => by rw [hy] at e; cases e), fun i z hi p hp => ?_, ?_, .nil, nofun⟩
  · rw [hall] at hi
    rw [he z (List.mem_of_getElem? hi)] at hp
    cases hp
  · rw [hall]
    have : kvL x.o.ds = [] := List.eq_nil_iff_forall_not_mem.mpr fun p hp => by
      obtain ⟨i, z, hi, hz⟩ := kvL_mem.mp hp
      rw [he z (List.mem_of_getElem? hi)] at hz
      cases hz
    rw [this]
theorem mk_slots {D : Ad} {B H : Hp} {L : List Cell} {Q : VK} {E : XK} (w : W B L H) (q : ∀ (al : Addr) (x : Sl) (B' H' : Hp), Same B B' → x.st = (4, none, 0) → SlI x [] → SlW D B' H' L al x 0 → Q (.ref al) H') : rMk D.c_Slots (sp_Slots_init K D) [] E Q [] H := by
  intro x dx hx hdx hne
  have w1 := w.newB hdx (.own x)
  have w2 := w1.newL (p := x) (by rw [upd_ne (Ne.symm hne)]; exact hx) (.ins D.c_Slots dx [])
  exact ⟨_, rfl, x, dx, _, L, rfl, w2, fun s B' H' s1 hy hs hl he sw => ⟨rfl, q x s B' H' (same_trans (same_new (w.freeB hdx)) s1) (by unfold Sl.st; rw [hy, hs, hl]; rfl) (SlI_new hy hs hl he) sw⟩⟩

/-! the program's leaves: the lists of the leaves stay, the list of them is owned -/
abbrev Zs := List (Addr × List Int)
abbrev lsZ (zs : Zs) : List (List Int) := zs.map (·.2)
abbrev rfZ (zs : Zs) : List V := zs.map fun z => V.ref z.1
theorem rfZ_set (zs : Zs) (k : Nat) (p : Addr) (l : List Int) : rfZ (zs.set k (p, l)) = (rfZ zs).set k (V.ref p) := by unfold rfZ; rw [List.map_set]
theorem lsZ_set (zs : Zs) (k : Nat) (p : Addr) (l : List Int) : lsZ (zs.set k (p, l)) = (lsZ zs).set k l := by unfold lsZ; rw [List.map_set]
theorem rfZ_ins (zs : Zs) (k : Nat) (p : Addr) (l : List Int) : rfZ (zs.take k ++ [(p, l)] ++ zs.drop k) = (rfZ zs).take k ++ [V.ref p] ++ (rfZ zs).drop k := by unfold rfZ; simp
theorem lsZ_ins (zs : Zs) (k : Nat) (p : Addr) (l : List Int) : lsZ (zs.take k ++ [(p, l)] ++ zs.drop k) = (lsZ zs).take k ++ [l] ++ (lsZ zs).drop k := by unfold lsZ; simp
theorem map_erase {α β : Type} (f : α → β) : ∀ (zs : List α) (k : Nat), (zs.eraseIdx k).map f = (zs.map f).eraseIdx k
  | [], _ => rfl
  | _ :: _, 0 => rfl
  | z :: zs, k + 1 => by simp only [List.eraseIdx_cons_succ, List.map_cons, map_erase f zs k]
theorem rfZ_del (zs : Zs) (k : Nat) : rfZ (zs.eraseIdx k) = (rfZ zs).eraseIdx k := map_erase _ zs k
theorem lsZ_del (zs : Zs) (k : Nat) : lsZ (zs.eraseIdx k) = (lsZ zs).eraseIdx k := map_erase _ zs k
structure LvB (D : Ad) (B : Hp) (a q : Addr) (zs : Zs) : Prop where
  obj : ∃ dx, B a = some (.ins D.c_Leaves dx [("parted", .ref q)])
  at_ : ∀ z ∈ zs, B z.1 = some (.lst (z.2.map V.int))
  small : zs.length < 10000
section
variable {D : Ad} {B B' : Hp} {a q p : Addr} {zs : Zs} {l : List Int} {k : Nat}
theorem LvB.mono (h : LvB D B a q zs) (s : Same B B') : LvB D B' a q zs := ⟨h.obj.imp fun _ e => s _ _ e, fun z hz => s _ _ (h.at_ z hz), h.small⟩
theorem getL {zs : Zs} {i : Nat} (hi : i < zs.length) : ∃ z, zs[i]? = some z ∧ z ∈ zs ∧ (lsZ zs).getD i [] = z.2 := by
  refine ⟨zs[i], List.getElem?_eq_getElem hi, List.getElem_mem hi, ?_⟩
  rw [List.getD_eq_getElem?_getD, List.getElem?_map, List.getElem?_eq_getElem hi]
  rfl
theorem LvB.get (h : LvB D B a q zs) {i : Nat} (hi : i < (lsZ zs).length) : ∃ z, zs[i]? = some z ∧ B z.1 = some (.lst (((lsZ zs).getD i []).map V.int)) := by
  obtain ⟨z, h1, h2, h3⟩ := getL (zs := zs) (by simpa using hi)
  exact ⟨z, h1, by rw [h3]; exact h.at_ z h2⟩
theorem LvB.set (h : LvB D B a q zs) (hp : B p = some (.lst (l.map V.int))) : LvB D B a q (zs.set k (p, l)) :=
  ⟨h.obj, fun z hz => by
    rcases List.mem_or_eq_of_mem_set hz with hz | rfl
    · exact h.at_ z hz
    · exact hp, by rw [List.length_set]; exact h.small⟩
theorem LvB.ins (h : LvB D B a q zs) (hp : B p = some (.lst (l.map V.int))) (hs : zs.length + 1 < 10000) : LvB D B a q (zs.take k ++ [(p, l)] ++ zs.drop k) :=
  ⟨h.obj, fun z hz => by
    rcases List.mem_append.mp hz with hz | hz
    · rcases List.mem_append.mp hz with hz | hz
      · exact h.at_ z (List.mem_of_mem_take hz)
      · rw [List.mem_singleton.mp hz]; exact hp
    · exact h.at_ z (List.mem_of_mem_drop hz), by simp only [List.length_append, List.length_take, List.length_drop, List.length_singleton]; omega⟩
theorem LvB.del (h : LvB D B a q zs) : LvB D B a q (zs.eraseIdx k) :=
  ⟨h.obj, fun z hz => h.at_ z (List.mem_of_mem_eraseIdx hz), by have := List.length_eraseIdx_le zs k; have := h.small; omega⟩
end
def sp_Leaves_init (K : PySem.W.Frag) (D : Ad) : Sp := Sp1 fun x H Q _ => ∃ (a dx : Addr) (B : Hp) (L : List Cell), x = .ref a ∧ W B ((a, .ins D.c_Leaves dx []) :: L) H ∧
  ∀ (q : Addr) (B' H' : Hp), Same B B' → LvB D B' a q [] → W B' ((q, .lst []) :: L) H' → Q .non H'
theorem ok_Leaves_init {D : Ad} (T : Txt K mg D) : FnOk P w K mg base (L2.CX P w) 1 D.a_Leaves_init D.d_Leaves_init ["self"] (sp_Leaves_init K D) := by
  refine T.F_Leaves_init.okX sc_Leaves_init (fun vs H Q E h => sp1_len h) (fun cdv A outer s H vs Q E hr h => ⟨_, (pss_one (ps_fld (pv 0) (pe_lst pa_nil) rfl)), ?_⟩)
  obtain ⟨x0, rfl, h⟩ := h
  rw [show L2.start n_Leaves_init [x0] = [some x0] from rfl]
  try dsimp only [cxOf]
  obtain ⟨a, dx, B, L, rfl, w, k⟩ := h
  wtm_at "go"
  refine o_lst w (szl (by simp)) fun q H1 hq w => ?_
  wtm_at "go"
  refine r_sfld (w.get (by wtm_at "mem")) T.cl_Leaves T.na_Leaves_parted (by simp) ?_
  have w := W.put1 w (.ins D.c_Leaves dx (putF "parted" (.ref q) []))
  have w2 := W.perm w (List.Perm.swap _ _ _)
  wtm_at "go"
  refine k q _ _ ?_ ?_ w2.give
  · exact fun b u e => by rw [upd_ne (ne_of_none e (w2.out _ (List.mem_cons_self ..)))]; exact e
  · exact ⟨⟨dx, by rw [upd_same]; rfl⟩, (fun z h => nomatch h), by simp⟩

theorem len8 {ls : List (List Int)} (h : ∀ l ∈ ls, l.length ≤ 8) (i : Nat) : (ls.getD i []).length ≤ 8 := by
  rw [List.getD_eq_getElem?_getD]
  by_cases hi : i < ls.length
  · rw [List.getElem?_eq_getElem hi]
    exact h _ (List.getElem_mem hi)
  · rw [List.getElem?_eq_none (by omega)]
    simp
/-- the walk's word of a Leaves at a: where its list stands, its leaves, that they are fit to be searched -/
structure Lv (D : Ad) (B H : Hp) (L : List Cell) (a q : Addr) (zs : Zs) : Prop where
  b : LvB D B a q zs
  w : W B ((q, .lst (rfZ zs)) :: L) H
  ne : ∀ i, i < (lsZ zs).length → (lsZ zs).getD i [] ≠ []
  up : HdUp (lsZ zs)
  l8 : ∀ l ∈ lsZ zs, l.length ≤ 8
def sp_Leaves_leaf_at (K : PySem.W.Frag) (D : Ad) : Sp := Sp2 fun x y H Q _ => ∃ (a q : Addr) (zs : Zs) (key : Int) (B : Hp) (L : List Cell), x = .ref a ∧ y = .int key ∧ Lv D B H L a q zs ∧ Q (.int (laL (lsZ zs) key : Nat)) H
theorem ok_Leaves_leaf_at {D : Ad} (T : Txt K mg D) : FnOk P w K mg base (L2.CX P w) 1 D.a_Leaves_leaf_at D.d_Leaves_leaf_at ["self", "key"] (sp_Leaves_leaf_at K D) := by
  refine T.F_Leaves_leaf_at.okX sc_Leaves_leaf_at (fun vs H Q E h => sp2_len h) (fun cdv A outer s H vs Q E hr h => ⟨_, (pss_cons (ps_set (i := 2) sc_Leaves_leaf_at.nd rfl (Or.inl rfl) pe_int)
    (pss_cons (ps_set (i := 3) sc_Leaves_leaf_at.nd rfl (Or.inl rfl) (pe_callB call_lenZ (by rfl) T.n_len bt_len (pa_cons (pe_fld (pv 0) rfl) pa_nil)))
    (pss_cons (ps_while (passes_of rfl) (pt_cmpR op_gt (pe_op op_sub (pv 3) (pv 2)) pe_int (nomark _))
      (pss_cons (ps_set (i := 4) sc_Leaves_leaf_at.nd rfl (Or.inl rfl) (pe_op op_fdiv (pe_op op_add (pv 2) (pv 3)) pe_int))
      (pss_one (ps_if (pt_cmpR op_le (pe_ix ix_list (pe_ix ix_list (pe_fld (pv 0) rfl) (pv 4) (fun _ _ => rfl)) pe_int (fun _ _ => rfl)) (pv 1) (nomark _))
        (pss_one (ps_set (i := 2) sc_Leaves_leaf_at.nd rfl (Or.inl rfl) (pv 4)))
        (pss_one (ps_set (i := 3) sc_Leaves_leaf_at.nd rfl (Or.inl rfl) (pv 4)))))))
    (pss_one (ps_ret (pv 2)))))), ?_⟩)
  obtain ⟨x0, x1, rfl, h⟩ := h
  rw [show L2.start n_Leaves_leaf_at [x0, x1] = [some x0, some x1, none, none, none] from rfl]
  try dsimp only [cxOf]
  obtain ⟨a, q, zs, key, B, L, rfl, rfl, ⟨lv, w, ne, up, _⟩, k⟩ := h
  obtain ⟨dx, ho⟩ := lv.obj
  have hl : (lsZ zs).length = zs.length := List.length_map _
  have hsm := lv.small
  have hq := w.get (List.mem_cons_self ..)
  wtm_at "go"
  refine r_fld (w.rd ho) T.cl_Leaves T.na_Leaves_parted rfl ?_
  wtm_at "go"
  refine r_lenL (SqL.of hq) ?_
  wtm_at "g0"
  rw [List.length_map, ← hl]
  refine g_while (lsZ zs).length (fun m σ H' => ∃ (lo hi : Nat) (u : Option V), lo ≤ hi ∧ hi - lo ≤ m ∧ hi ≤ (lsZ zs).length ∧ (lo = 0 ∨ (lo < (lsZ zs).length ∧ hdL (lsZ zs) lo ≤ key)) ∧ (hi = (lsZ zs).length ∨ (hi < (lsZ zs).length ∧ key < hdL (lsZ zs) hi)) ∧
    σ = [some (.ref a), some (.int key), some (.int lo), some (.int hi), u] ∧ H' = H) ⟨0, (lsZ zs).length, none, by omega, by omega, by omega, .inl rfl, .inl rfl, rfl, rfl⟩ ?_
  rintro m σ H' ⟨lo, hi, u, h1, h2, h3, h4, h5, rfl, rfl⟩
  wtm_at "go"
  by_cases c : hi ≤ lo + 1
  · wtm_at "go"
    have e := laL_of up h4 h5 c
    rw [e]
    exact k
  · wtm_at "go"
    refine r_fld (w.rd ho) T.cl_Leaves T.na_Leaves_parted rfl ?_
    wtm_at "go"
    have em : ((lo : Int) + (hi : Int)) / 2 = (((lo + hi) / 2 : Nat) : Int) := by omega
    rw [em]
    have hmid : (lo + hi) / 2 < (lsZ zs).length := by omega
    have hm1 : lo < (lo + hi) / 2 := by omega
    have hm2 : (lo + hi) / 2 < hi := by omega
    generalize (lo + hi) / 2 = mid at hmid hm1 hm2 ⊢
    obtain ⟨z, hz, hB⟩ := lv.get hmid
    refine r_ixL (SqL.of hq) (v := .ref z.1) ?_ ?_
    · rw [atI_nat' (by omega) (by rw [List.length_map]; omega), Int.toNat_natCast, List.getElem?_map, hz]
      rfl
    wtm_at "go"
    have hne := ne _ hmid
    have hh : (lsZ zs).getD mid [] = hdL (lsZ zs) mid :: ((lsZ zs).getD mid []).tail := by
      unfold hdL
      cases e : (lsZ zs).getD mid [] with
      | nil => exact absurd e hne
      | cons x r => rfl
    refine r_ixL (v := .int (hdL (lsZ zs) mid)) (SqL.of (w.rd hB)) ?_ ?_
    · rw [hh]
      rw [atI_nat' (by omega) (by simp)]
      rfl
    wtm_at "go"
    wtm_at "br"
    · intro c2
      wtm_at "go"
      exact ⟨m - 1, by omega, mid, hi, _, by omega, by omega, by omega, .inr ⟨hmid, c2⟩, h5, rfl, rfl⟩
    · intro c2
      wtm_at "go"
      exact ⟨m - 1, by omega, lo, mid, _, by omega, by omega, by omega, h4, .inr ⟨hmid, by omega⟩, rfl, rfl⟩

local macro_rules | `(tactic| wtm_at "s0") => `(tactic| first | with_reducible refine g_bm ?_ | with_reducible refine g_bm0 ?_ | with_reducible refine g_sub ?_)
theorem dp_lists {H : Hp} : ∀ (zs : Zs), (∀ z ∈ zs, H z.1 = some (.lst (z.2.map V.int))) → DpAll K H (rfZ zs) ((lsZ zs).map fun l => PyData.list (l.map PyData.int))
  | [], _ => .nil
  | z :: zs, h => .cons (.lst (SqL.of (h z (List.mem_cons_self ..))) (dp_ints z.2)) (dp_lists zs fun y hy => h y (List.mem_cons_of_mem _ hy))
theorem can_lists : ∀ ls : List (List Int), PyData.canLayAll0 (ls.map fun l => PyData.list (l.map PyData.int)) = true
  | [] => by simp [PyData.canLayAll0]
  | l :: r => by simp [PyData.canLayAll0, PyData.canLay0, canAll_ints, can_lists r]
theorem dep_lists : ∀ ls : List (List Int), PyData.depthAll (ls.map fun l => PyData.list (l.map PyData.int)) ≤ 1
  | [] => by simp [PyData.depthAll]
  | l :: r => by
    have := dep_lists r
    simp only [List.map_cons, PyData.depthAll, PyData.depth, depAll_ints]
    omega
theorem sh_lists (ls : List (List Int)) : SeqAt.shaped (.list (ls.map fun l => PyData.list (l.map PyData.int))) = true := by
  have := dep_lists ls
  unfold SeqAt.shaped
  rw [PyData.canLay0, can_lists, Bool.true_and, PyData.depth]
  exact decide_eq_true (by omega)
theorem eqv_nil (xs : List PyData) : PyData.eqvAll xs [] = decide (xs = []) := by cases xs <;> simp [PyData.eqvAll]
section
variable {D : Ad} {B H : Hp} {a q e : Addr} {zs : Zs} {Q : VK}
theorem dpLv (lv : LvB D B a q zs) (s : Same B H) (hq : SqL K H q (rfZ zs)) : Dp K H (.ref q) (.list ((lsZ zs).map fun l => PyData.list (l.map PyData.int))) :=
  .lst hq (dp_lists zs fun z hz => s _ _ (lv.at_ z hz))
theorem r_neLv (lv : LvB D B a q zs) (s : Same B H) (hq : SqL K H q (rfZ zs)) (he : SqL K H e []) (k : Q (.bl (!decide (zs = []))) H) : rNeD K (.ref q) (.ref e) H Q :=
  ⟨_, _, dpLv lv s hq, .lst he .nil, sh_lists _, by decide, by rw [PyData.eqv, eqv_nil]; simpa using k⟩
theorem r_eqLv (lv : LvB D B a q zs) (s : Same B H) (hq : SqL K H q (rfZ zs)) (he : SqL K H e []) (k : Q (.bl (decide (zs = []))) H) : rEqD K (.ref q) (.ref e) H Q :=
  ⟨_, _, dpLv lv s hq, .lst he .nil, sh_lists _, by decide, by rw [PyData.eqv, eqv_nil]; simpa using k⟩
end
theorem lsZ_ne {zs : Zs} (h : zs ≠ []) : lsZ zs ≠ [] := by simpa using h
def sp_Leaves_has (K : PySem.W.Frag) (D : Ad) : Sp := Sp2 fun x y H Q _ => ∃ (a q : Addr) (zs : Zs) (key : Int) (B : Hp) (L : List Cell), x = .ref a ∧ y = .int key ∧ Lv D B H L a q zs ∧
  ∀ B' H', Same B B' → Lv D B' H' L a q zs → Q (.bl (hsL (lsZ zs) key)) H'
theorem ok_Leaves_has {D : Ad} (T : Txt K mg D) : FnOk P w K mg base (L2.CX P w) 2 D.a_Leaves_has D.d_Leaves_has ["self", "key"] (sp_Leaves_has K D) := by
  refine T.F_Leaves_has.okX sc_Leaves_has (fun vs H Q E h => sp2_len h) (fun cdv A outer s H vs Q E hr h => ⟨_, (pss_one (ps_ret (pe_and (pe_cmpR (op_neD hr.units) (pe_fld (pv 0) rfl) (pe_lst pa_nil) (nomark _)) (pe_one (pe_cmpR op_in_seq (pv 1) (pe_ix ix_list (pe_fld (pv 0) rfl) (pe_meth (pv 0) T.cl_Leaves T.me_Leaves_leaf_at (ok_Leaves_leaf_at T) (hr.mono (by decide)) T.b_Leaves_leaf_at .nil pX (pa_cons (pv 1) pa_nil)) (fun _ _ => rfl)) (by rfl)))))), ?_⟩)
  obtain ⟨x0, x1, rfl, h⟩ := h
  rw [show L2.start n_Leaves_has [x0, x1] = [some x0, some x1] from rfl]
  try dsimp only [cxOf]
  obtain ⟨a, q, zs, key, B, L, rfl, rfl, ⟨lv, w, ne, up, l8⟩, k⟩ := h
  obtain ⟨dx, ho⟩ := lv.obj
  wtm_at "go"
  refine r_fld (w.rd ho) T.cl_Leaves T.na_Leaves_parted rfl ?_
  wtm_at "go"
  refine d_lst w (szl (by simp)) fun e B1 H1 he s1 i1 w => ?_
  have lv := lv.mono s1
  have ho := s1 _ _ ho
  have hq := w.get (List.mem_cons_self ..)
  refine r_neLv lv w.sub (SqL.of hq) (SqL.of (w.rd i1)) ?_
  wtm_at "go"
  wtm_at "br"
  · intro c
    have c2 := laL_lt (key := key) (lsZ_ne c)
    wtm_at "go"
    refine r_fld (w.rd ho) T.cl_Leaves T.na_Leaves_parted rfl ?_
    wtm_at "go"
    refine r_meth (w.rd ho) rfl ?_
    wtm_at "go"
    refine ⟨_, _, rfl, a, q, zs, key, B1, L, rfl, rfl, ⟨lv, w, ne, up, l8⟩, ?_⟩
    obtain ⟨z, hz, hB⟩ := lv.get c2
    refine r_ixL (SqL.of hq) (v := .ref z.1) ?_ ?_
    · rw [List.length_map] at c2
      rw [atI_nat' (by omega) (by rw [List.length_map]; omega), Int.toNat_natCast, List.getElem?_map, hz]
      rfl
    refine r_inL (SqL.of (w.rd hB)) ?_
    have e2 : hsL (lsZ zs) key = decide (key ∈ (lsZ zs).getD (laL (lsZ zs) key) []) := by unfold hsL; simp [c]
    rw [← e2]
    exact k _ _ s1 ⟨lv, w, ne, up, l8⟩
  · intro c
    wtm_at "go"
    have e2 : hsL (lsZ zs) key = false := by unfold hsL; simp [c]
    rw [← e2]
    exact k _ _ s1 ⟨lv, w, ne, up, l8⟩

def sp_Leaves_add (K : PySem.W.Frag) (D : Ad) : Sp := Sp2 fun x y H Q _ => ∃ (a q : Addr) (zs : Zs) (key : Int) (B : Hp) (L : List Cell), x = .ref a ∧ y = .int key ∧ Lv D B H L a q zs ∧ hsL (lsZ zs) key = false ∧ zs.length + 1 < 10000 ∧
  ∀ B' H' zs', Same B B' → LvB D B' a q zs' → W B' ((q, .lst (rfZ zs')) :: L) H' → AddR (lsZ zs) key (lsZ zs') → Q .non H'
theorem ok_Leaves_add {D : Ad} (T : Txt K mg D) : FnOk P w K mg base (L2.CX P w) 3 D.a_Leaves_add D.d_Leaves_add ["self", "key"] (sp_Leaves_add K D) := by
  refine T.F_Leaves_add.okX sc_Leaves_add (fun vs H Q E h => sp2_len h) (fun cdv A outer s H vs Q E hr h => ⟨_, (pss_cons (ps_if (pt_val (pe_meth (pv 0) T.cl_Leaves T.me_Leaves_has (ok_Leaves_has T) (hr.mono (by decide)) T.b_Leaves_has .nil pX (pa_cons (pv 1) pa_nil)))
      (pss_one ps_dead)
      pss_nil)
    (pss_cons (ps_if (pt_cmpR (op_eqD hr.units) (pe_fld (pv 0) rfl) (pe_lst pa_nil) (nomark _))
      (pss_cons (ps_expr (pe_bm PySem.F.plainAttrs_list PySem.F.slot_list_append PySem.F.type_list_append mt_append (pe_fld (pv 0) rfl) (pa_cons (pe_lst (pa_cons (pv 1) pa_nil)) pa_nil)))
      (pss_one ps_retN))
      pss_nil)
    (pss_cons (ps_set (i := 2) sc_Leaves_add.nd rfl (Or.inl rfl) (pe_meth (pv 0) T.cl_Leaves T.me_Leaves_leaf_at (ok_Leaves_leaf_at T) (hr.mono (by decide)) T.b_Leaves_leaf_at .nil pX (pa_cons (pv 1) pa_nil)))
    (pss_cons (ps_set (i := 3) sc_Leaves_add.nd rfl (Or.inl rfl) (pe_callB cr_sortedI (by rfl) T.n_sorted bt_sorted (pa_cons (pe_op op_cat (pe_ix ix_list (pe_fld (pv 0) rfl) (pv 2) (fun _ _ => rfl)) (pe_lst (pa_cons (pv 1) pa_nil))) pa_nil)))
    (pss_cons (ps_asg (pv 3) (pg_sub (pe_fld (pv 0) rfl) (pv 2) set_list))
    (pss_one (ps_if (pt_cmpR op_gt (pe_callB call_lenZ (by rfl) T.n_len bt_len (pa_cons (pv 3) pa_nil)) (pe_glob (v := .int 8) rfl T.k_MOST_KEYS ⟨_, rfl⟩) (nomark _))
      (pss_cons (ps_asg (pe_slice sl_list (pv 3) po_none (po_some pe_int)) (pg_sub (pe_fld (pv 0) rfl) (pv 2) set_list))
      (pss_one (ps_expr (pe_bm PySem.F.plainAttrs_list PySem.F.slot_list_insert PySem.F.type_list_insert mt_insertZ (pe_fld (pv 0) rfl) (pa_cons (pe_op op_add (pv 2) pe_int) (pa_cons (pe_slice sl_list (pv 3) (po_some pe_int) po_none) pa_nil))))))
      pss_nil))))))), ?_⟩)
  obtain ⟨x0, x1, rfl, h⟩ := h
  rw [show L2.start n_Leaves_add [x0, x1] = [some x0, some x1, none, none] from rfl]
  try dsimp only [cxOf]
  obtain ⟨a, q, zs, key, B, L, rfl, rfl, lv, hh, hsm, k⟩ := h
  obtain ⟨dx, ho⟩ := lv.b.obj
  wtm_at "go"
  refine r_meth (lv.w.rd ho) rfl ?_
  wtm_at "go"
  refine ⟨_, _, rfl, a, q, zs, key, B, L, rfl, rfl, lv, fun B1 H1 s1 lv => ?_⟩
  rw [hh]
  wtm_at "go"
  have ho := s1 _ _ ho
  refine r_fld (lv.w.rd ho) T.cl_Leaves T.na_Leaves_parted rfl ?_
  wtm_at "go"
  obtain ⟨lb, w, ne, up, l8⟩ := lv
  refine d_lst w (szl (by simp)) fun e B2 H2 he s2 i2 w => ?_
  have lb := lb.mono s2
  have ho := s2 _ _ ho
  have s2 := same_trans s1 s2
  have hq := w.get (List.mem_cons_self ..)
  refine r_eqLv lb w.sub (SqL.of hq) (SqL.of (w.rd i2)) ?_
  wtm_at "go"
  wtm_at "br"
  · intro c
    subst c
    wtm_at "go"
    refine r_fld (w.rd ho) T.cl_Leaves T.na_Leaves_parted rfl ?_
    refine r_bmL (SqL.of hq) ?_
    wtm_at "go"
    refine d_lst w (szl (by simp)) fun p B3 H3 hp s3 i3 w => ?_
    have hq := w.get (List.mem_cons_self ..)
    refine r_append hq (szlt (by simp)) ?_
    have w := w.put0 (.lst (rfZ [] ++ [V.ref p]))
    wtm_at "go"
    exact k _ _ [(p, [key])] (same_trans s2 s3) ⟨⟨dx, s3 _ _ ho⟩, fun z hz => by (rw [List.mem_singleton.mp hz]; exact i3), by simp⟩ w (.inl ⟨rfl, rfl⟩)
  · intro c
    wtm_at "go"
    refine r_meth (w.rd ho) rfl ?_
    wtm_at "go"
    refine ⟨_, _, rfl, a, q, zs, key, B2, L, rfl, rfl, ⟨lb, w, ne, up, l8⟩, ?_⟩
    wtm_at "go"
    have c2 := laL_lt (key := key) (lsZ_ne c)
    have c3 : laL (lsZ zs) key < zs.length := by rw [List.length_map] at c2; exact c2
    have hr : ∀ ls', (∃ ms : List Int, ms.Perm ((lsZ zs).getD (laL (lsZ zs) key) [] ++ [key]) ∧ ms.Pairwise (· ≤ ·) ∧
      ls' = if 8 < ms.length then ((lsZ zs).set (laL (lsZ zs) key) (ms.take 4)).take (laL (lsZ zs) key + 1) ++ [ms.drop 4] ++ ((lsZ zs).set (laL (lsZ zs) key) (ms.take 4)).drop (laL (lsZ zs) key + 1) else (lsZ zs).set (laL (lsZ zs) key) ms) → AddR (lsZ zs) key ls' := fun ls' h => .inr ⟨lsZ_ne c, h⟩
    have hl8 := len8 l8 (laL (lsZ zs) key)
    obtain ⟨z, hz, hB⟩ := lb.get c2
    generalize laL (lsZ zs) key = k0 at c2 c3 hr hl8 hz hB ⊢
    generalize hlf : (lsZ zs).getD k0 [] = lf at hr hl8 hB ⊢
    refine r_fld (w.rd ho) T.cl_Leaves T.na_Leaves_parted rfl ?_
    wtm_at "go"
    refine r_ixL (SqL.of hq) (v := .ref z.1) ?_ ?_
    · rw [atI_nat' (by omega) (by rw [List.length_map]; omega), Int.toNat_natCast, List.getElem?_map, hz]
      rfl
    wtm_at "go"
    refine d_lst w (szl (by simp)) fun p3 B3 H3 hp3 s3 i3 w => ?_
    refine d_cat w (w.rd (s3 _ _ hB)) (w.rd i3) (szl (by simp; omega)) fun p4 B4 H4 hp4 s4 i4 w => ?_
    have i4 : B4 p4 = some (.lst ((lf ++ [key]).map V.int)) := by simpa using i4
    wtm_at "go"
    refine r_sortI w (SqL.of (w.rd i4)) fun p5 B5 H5 ms pm so s5 i5 w => ?_
    have s25 := same_trans s3 (same_trans s4 s5)
    have ho := s25 _ _ ho
    have lb := lb.mono s25
    wtm_at "go"
    refine r_fld (w.rd ho) T.cl_Leaves T.na_Leaves_parted rfl ?_
    wtm_at "go"
    refine r_setL (w.get (List.mem_cons_self ..)) (k := k0) (by rw [List.length_map]; exact c3) ?_
    have w := w.put0 (.lst ((rfZ zs).set k0 (V.ref p5)))
    rw [← rfZ_set zs k0 p5 ms] at w ⊢
    have hm9 : ms.length ≤ 9 := by rw [pm.length_eq]; simp; omega
    have lb1 := lb.set (k := k0) i5
    wtm_at "go"
    refine r_lenL (SqL.of (w.rd i5)) ?_
    wtm_at "go"
    rw [List.length_map]
    wtm_at "br"
    · intro c4
      wtm_at "go"
      refine d_slL w (SqL.of (w.rd i5)) fun p6 B6 H6 hp6 s6 i6 w => ?_
      rw [cutV_int, show cutI ms none (some 4) = ms.take 4 from cutI_take ms 4] at i6
      have ho := s6 _ _ ho
      wtm_at "go"
      refine r_fld (w.rd ho) T.cl_Leaves T.na_Leaves_parted rfl ?_
      wtm_at "go"
      refine r_setL (w.get (List.mem_cons_self ..)) (k := k0) (by rw [List.length_map, List.length_set]; exact c3) ?_
      have w := w.put0 (.lst ((rfZ (zs.set k0 (p5, ms))).set k0 (V.ref p6)))
      rw [← rfZ_set _ k0 p6 (ms.take 4), List.set_set] at w ⊢
      have lb2 := (lb.mono s6).set (k := k0) i6
      wtm_at "go"
      refine r_fld (w.rd ho) T.cl_Leaves T.na_Leaves_parted rfl ?_
      refine r_bmL (SqL.of (w.get (List.mem_cons_self ..))) ?_
      wtm_at "go"
      refine d_slL w (SqL.of (w.rd (s6 _ _ i5))) fun p7 B7 H7 hp7 s7 i7 w => ?_
      rw [cutV_int, show cutI ms (some 4) none = ms.drop 4 from cutI_drop ms 4] at i7
      wtm_at "go"
      rw [show ((k0 : Int) + 1) = ((k0 + 1 : Nat) : Int) by omega]
      refine r_insert (w.get (List.mem_cons_self ..)) (by rw [List.length_map, List.length_set]; exact szlt (by omega)) (by omega) ?_
      have w := w.put0 (.lst ((rfZ (zs.set k0 (p6, ms.take 4))).take (k0 + 1) ++ [V.ref p7] ++ (rfZ (zs.set k0 (p6, ms.take 4))).drop (k0 + 1)))
      rw [← rfZ_ins _ (k0 + 1) p7 (ms.drop 4)] at w ⊢
      wtm_at "go"
      refine k _ _ _ (same_trans s2 (same_trans s25 (same_trans s6 s7))) ((lb2.mono s7).ins (k := k0 + 1) i7 (by rw [List.length_set]; exact hsm)) w (hr _ ⟨ms, pm, so, ?_⟩)
      rw [lsZ_ins, lsZ_set, if_pos (by omega)]
    · intro c4
      wtm_at "go"
      refine k _ _ _ (same_trans s2 s25) lb1 w (hr _ ⟨ms, pm, so, ?_⟩)
      rw [lsZ_set, if_neg (by omega)]

def sp_Leaves_join_at (K : PySem.W.Frag) (D : Ad) : Sp := Sp2 fun x y H Q _ => ∃ (a q : Addr) (zs : Zs) (k : Int) (B : Hp) (L : List Cell), x = .ref a ∧ y = .int k ∧ LvB D B a q zs ∧ W B ((q, .lst (rfZ zs)) :: L) H ∧ (∀ l ∈ lsZ zs, l.length ≤ 8) ∧
  ∀ B' H' zs', Same B B' → LvB D B' a q zs' → W B' ((q, .lst (rfZ zs')) :: L) H' → lsZ zs' = jnL (lsZ zs) k → Q .non H'
theorem ok_Leaves_join_at {D : Ad} (T : Txt K mg D) : FnOk P w K mg base (L2.CX P w) 1 D.a_Leaves_join_at D.d_Leaves_join_at ["self", "at"] (sp_Leaves_join_at K D) := by
  refine T.F_Leaves_join_at.okX sc_Leaves_join_at (fun vs H Q E h => sp2_len h) (fun cdv A outer s H vs Q E hr h => ⟨_, (pss_one (ps_if (pt_chain op_le op_lt pe_int (pv 1) (pe_op op_sub (pe_callB call_lenZ (by rfl) T.n_len bt_len (pa_cons (pe_fld (pv 0) rfl) pa_nil)) pe_int))
      (pss_cons (ps_set (i := 2) sc_Leaves_join_at.nd rfl (Or.inl rfl) (pe_op op_cat (pe_ix ix_list (pe_fld (pv 0) rfl) (pv 1) (fun _ _ => rfl)) (pe_ix ix_list (pe_fld (pv 0) rfl) (pe_op op_add (pv 1) pe_int) (fun _ _ => rfl))))
      (pss_one (ps_if (pt_cmpR op_lt (pe_callB call_lenZ (by rfl) T.n_len bt_len (pa_cons (pv 2) pa_nil)) (pe_glob (v := .int 5) rfl T.k_LEAST_OF_TWO ⟨_, rfl⟩) (nomark _))
        (pss_cons (ps_asg (pv 2) (pg_sub (pe_fld (pv 0) rfl) (pv 1) set_list))
        (pss_one (ps_expr (pe_bm PySem.F.plainAttrs_list PySem.F.slot_list_pop PySem.F.type_list_pop mt_popAt (pe_fld (pv 0) rfl) (pa_cons (pe_op op_add (pv 1) pe_int) pa_nil)))))
        pss_nil)))
      pss_nil)), ?_⟩)
  obtain ⟨x0, x1, rfl, h⟩ := h
  rw [show L2.start n_Leaves_join_at [x0, x1] = [some x0, some x1, none] from rfl]
  try dsimp only [cxOf]
  obtain ⟨a, q, zs, kk, B, L, rfl, rfl, lb, w, l8, k⟩ := h
  obtain ⟨dx, ho⟩ := lb.obj
  have hsm := lb.small
  have hq := w.get (List.mem_cons_self ..)
  wtm_at "go"
  by_cases c1 : 0 ≤ kk
  · wtm_at "go"
    refine r_fld (w.rd ho) T.cl_Leaves T.na_Leaves_parted rfl ?_
    wtm_at "go"
    refine r_lenL (SqL.of hq) ?_
    wtm_at "go"
    rw [List.length_map]
    wtm_at "br"
    · intro c2
      obtain ⟨j, rfl⟩ : ∃ j : Nat, kk = j := ⟨kk.toNat, by omega⟩
      have hj : j < (lsZ zs).length := by rw [List.length_map]; omega
      have hj1 : j + 1 < (lsZ zs).length := by rw [List.length_map]; omega
      have hz0 : (lsZ zs).length = zs.length := List.length_map _
      obtain ⟨z1, hz1, hB1⟩ := lb.get hj
      obtain ⟨z2, hz2, hB2⟩ := lb.get hj1
      have l1 := len8 l8 j
      have l2 := len8 l8 (j + 1)
      have ej : jnL (lsZ zs) j = if ((lsZ zs).getD j [] ++ (lsZ zs).getD (j + 1) []).length < 5 then ((lsZ zs).set j ((lsZ zs).getD j [] ++ (lsZ zs).getD (j + 1) [])).eraseIdx (j + 1) else lsZ zs := by
        unfold jnL
        rw [Int.toNat_natCast]
        by_cases c5 : ((lsZ zs).getD j [] ++ (lsZ zs).getD (j + 1) []).length < 5
        · rw [if_pos c5, if_pos ⟨by omega, by omega, c5⟩]
        · rw [if_neg c5, if_neg fun h => c5 h.2.2]
      wtm_at "go"
      refine r_fld (w.rd ho) T.cl_Leaves T.na_Leaves_parted rfl ?_
      wtm_at "go"
      refine r_ixL (SqL.of hq) (v := .ref z1.1) ?_ ?_
      · rw [atI_nat' (by omega) (by rw [List.length_map]; omega), Int.toNat_natCast, List.getElem?_map, hz1]
        rfl
      wtm_at "go"
      refine r_fld (w.rd ho) T.cl_Leaves T.na_Leaves_parted rfl ?_
      wtm_at "go"
      rw [show ((j : Int) + 1) = ((j + 1 : Nat) : Int) by omega]
      refine r_ixL (SqL.of hq) (v := .ref z2.1) ?_ ?_
      · rw [atI_nat' (by omega) (by rw [List.length_map]; omega), Int.toNat_natCast, List.getElem?_map, hz2]
        rfl
      generalize (lsZ zs).getD j [] = la at *
      generalize (lsZ zs).getD (j + 1) [] = lc at *
      refine d_cat w (w.rd hB1) (w.rd hB2) (szl (by simp; omega)) fun p3 B3 H3 hp3 s3 i3 w => ?_
      have i3 : B3 p3 = some (.lst ((la ++ lc).map V.int)) := by simpa using i3
      have ho := s3 _ _ ho
      wtm_at "go"
      refine r_lenL (SqL.of (w.rd i3)) ?_
      wtm_at "go"
      rw [List.length_map]
      wtm_at "br"
      · intro c3
        wtm_at "go"
        refine r_fld (w.rd ho) T.cl_Leaves T.na_Leaves_parted rfl ?_
        wtm_at "go"
        refine r_setL (w.get (List.mem_cons_self ..)) (k := j) (by rw [List.length_map]; omega) ?_
        have w := w.put0 (.lst ((rfZ zs).set j (V.ref p3)))
        rw [← rfZ_set _ j p3 (la ++ lc)] at w ⊢
        have lb2 := (lb.mono s3).set (k := j) i3
        wtm_at "go"
        refine r_fld (w.rd ho) T.cl_Leaves T.na_Leaves_parted rfl ?_
        refine r_bmL (SqL.of (w.get (List.mem_cons_self ..))) ?_
        wtm_at "go"
        rw [show ((j : Int) + 1) = ((j + 1 : Nat) : Int) by omega]
        refine r_popAt (w.get (List.mem_cons_self ..)) (k := j + 1) (y := .ref z2.1) (by rw [List.length_map, List.length_set]; omega) ?_ ?_
        · rw [rfZ_set, List.getElem?_set_ne (by omega), List.getElem?_map, hz2]
          rfl
        have w := w.put0 (.lst ((rfZ (zs.set j (p3, la ++ lc))).eraseIdx (j + 1)))
        rw [← rfZ_del] at w ⊢
        wtm_at "go"
        refine k _ _ _ s3 (lb2.del (k := j + 1)) w ?_
        rw [lsZ_del, lsZ_set, ej, if_pos (by omega)]
      · intro c3
        wtm_at "go"
        refine k _ _ _ s3 (lb.mono s3) w ?_
        rw [ej, if_neg (by omega)]
    · intro c2
      wtm_at "go"
      refine k _ _ zs (same_refl _) lb w ?_
      unfold jnL
      rw [if_neg fun h => by have := h.2.1; rw [List.length_map] at this; omega]
  · wtm_at "go"
    refine k _ _ zs (same_refl _) lb w ?_
    unfold jnL
    rw [if_neg fun h => c1 h.1]

def sp_Leaves_discard (K : PySem.W.Frag) (D : Ad) : Sp := Sp2 fun x y H Q _ => ∃ (a q : Addr) (zs : Zs) (key : Int) (B : Hp) (L : List Cell), x = .ref a ∧ y = .int key ∧ Lv D B H L a q zs ∧ hsL (lsZ zs) key = true ∧
  ∀ B' H' zs', Same B B' → LvB D B' a q zs' → W B' ((q, .lst (rfZ zs')) :: L) H' → lsZ zs' = dsL (lsZ zs) key → Q .non H'
theorem ok_Leaves_discard {D : Ad} (T : Txt K mg D) : FnOk P w K mg base (L2.CX P w) 3 D.a_Leaves_discard D.d_Leaves_discard ["self", "key"] (sp_Leaves_discard K D) := by
  refine T.F_Leaves_discard.okX sc_Leaves_discard (fun vs H Q E h => sp2_len h) (fun cdv A outer s H vs Q E hr h => ⟨_, (pss_cons (ps_if (pt_not (pt_val (pe_meth (pv 0) T.cl_Leaves T.me_Leaves_has (ok_Leaves_has T) (hr.mono (by decide)) T.b_Leaves_has .nil pX (pa_cons (pv 1) pa_nil))))
      (pss_one ps_dead)
      pss_nil)
    (pss_cons (ps_set (i := 2) sc_Leaves_discard.nd rfl (Or.inl rfl) (pe_meth (pv 0) T.cl_Leaves T.me_Leaves_leaf_at (ok_Leaves_leaf_at T) (hr.mono (by decide)) T.b_Leaves_leaf_at .nil pX (pa_cons (pv 1) pa_nil)))
    (pss_cons (ps_setLc (i := 3) (own := [("one", 4)]) (g := gName 4) rfl sc_Leaves_discard.nd rfl rfl (sw_true rfl rfl rfl (by decide +kernel)) (pi_list (pe_ix ix_list (pe_fld (pv 0) rfl) (pv 2) (fun _ _ => rfl))) (blkOk_by (own := [("one", 4)]) (N := n_Leaves_discard) (sc := defScope s_Leaves_discard) (by decide +kernel)) (fun _ _ _ _ _ => (pg_name (i := 4) sc_Leaves_discard.nd rfl (Or.inl rfl))) (fun _ _ _ _ _ => (pts_one (pt_cmpR op_ne (pv 4) (pv 1) (nomark _)))) (fun _ _ _ _ _ => (pv 4)))
    (pss_cons (ps_if (pt_cmpR (op_eqD hr.units) (pv 3) (pe_lst pa_nil) (nomark _))
      (pss_cons (ps_expr (pe_bm PySem.F.plainAttrs_list PySem.F.slot_list_pop PySem.F.type_list_pop mt_popAt (pe_fld (pv 0) rfl) (pa_cons (pv 2) pa_nil)))
      (pss_one ps_retN))
      pss_nil)
    (pss_cons (ps_asg (pv 3) (pg_sub (pe_fld (pv 0) rfl) (pv 2) set_list))
    (pss_cons (ps_expr (pe_meth (pv 0) T.cl_Leaves T.me_Leaves_join_at (ok_Leaves_join_at T) (hr.mono (by decide)) T.b_Leaves_join_at .nil pX (pa_cons (pv 2) pa_nil)))
    (pss_one (ps_expr (pe_meth (pv 0) T.cl_Leaves T.me_Leaves_join_at (ok_Leaves_join_at T) (hr.mono (by decide)) T.b_Leaves_join_at .nil pX (pa_cons (pe_op op_sub (pv 2) pe_int) pa_nil)))))))))), ?_⟩)
  obtain ⟨x0, x1, rfl, h⟩ := h
  rw [show L2.start n_Leaves_discard [x0, x1] = [some x0, some x1, none, none, none] from rfl]
  try dsimp only [cxOf]
  obtain ⟨a, q, zs, key, B, L, rfl, rfl, lv, hh, k⟩ := h
  obtain ⟨dx, ho⟩ := lv.b.obj
  wtm_at "go"
  refine r_meth (lv.w.rd ho) rfl ?_
  wtm_at "go"
  refine ⟨_, _, rfl, a, q, zs, key, B, L, rfl, rfl, lv, fun B1 H1 s1 lv => ?_⟩
  rw [hh]
  have c : zs ≠ [] := by
    unfold hsL at hh
    have := (of_decide_eq_true hh).1
    simpa using this
  wtm_at "go"
  have ho := s1 _ _ ho
  refine r_meth (lv.w.rd ho) rfl ?_
  wtm_at "go"
  refine ⟨_, _, rfl, a, q, zs, key, B1, L, rfl, rfl, lv, ?_⟩
  obtain ⟨lb, w, ne, up, l8⟩ := lv
  have hsm := lb.small
  have hq := w.get (List.mem_cons_self ..)
  have c2 := laL_lt (key := key) (lsZ_ne c)
  have c3 : laL (lsZ zs) key < zs.length := by rw [List.length_map] at c2; exact c2
  have hr : dsL (lsZ zs) key = if ((lsZ zs).getD (laL (lsZ zs) key) []).filter (fun n => !decide (n = key)) = [] then (lsZ zs).eraseIdx (laL (lsZ zs) key)
    else jnL (jnL ((lsZ zs).set (laL (lsZ zs) key) (((lsZ zs).getD (laL (lsZ zs) key) []).filter (fun n => !decide (n = key)))) (laL (lsZ zs) key)) ((laL (lsZ zs) key : Int) - 1) := rfl
  have hl8 := len8 l8 (laL (lsZ zs) key)
  obtain ⟨z, hz, hB⟩ := lb.get c2
  generalize laL (lsZ zs) key = k0 at c2 c3 hr hl8 hz hB ⊢
  generalize hlf : (lsZ zs).getD k0 [] = lf at hr hl8 hB ⊢
  wtm_at "go"
  refine r_fld (w.rd ho) T.cl_Leaves T.na_Leaves_parted rfl ?_
  wtm_at "go"
  refine r_ixL (SqL.of hq) (v := .ref z.1) ?_ ?_
  · rw [atI_nat' (by omega) (by rw [List.length_map]; omega), Int.toNat_natCast, List.getElem?_map, hz]
    rfl
  refine r_il (SqL.of (w.rd hB)) ?_
  intro D1 hD
  refine LC.list (K := K) w hD (SqL.of hB) (by rw [List.length_map]; exact szlt (by omega)) (fun i B acc => acc = ((lf.take i).filter (fun n => !decide (n = key))).map V.int) (by simp) ?_ ?_
  · rintro i x B2 acc H2 Nx hi s2 w rfl hl1 hl2 hN
    obtain ⟨n, rfl, hn, _⟩ := getV hi
    wtm_at "go"
    refine ⟨rfl, ?_⟩
    wtm_at "go"
    have et : lf.take (i + 1) = lf.take i ++ [n] := by rw [List.take_add_one, hn]; rfl
    wtm_at "br"
    · intro c4
      wtm_at "go"
      refine r_acc w hl2 fun H3 w3 => ?_
      refine hN _ _ _ (same_refl _) w3 ?_ (by simp at hl1 ⊢; omega)
      rw [et, List.filter_append]
      simp [c4]
    · intro c4
      refine hN _ _ _ (same_refl _) w ?_ (by omega)
      rw [et, List.filter_append]
      simp [c4]
  · rintro B2 B3 acc H2 s2 s3 i3 w rfl hl1
    rw [List.length_map, List.take_length] at i3
    wtm_at "go"
    have ho := s2 _ _ ho
    have lb := lb.mono s2
    have hgl : (lf.filter (fun n => !decide (n = key))).length ≤ lf.length := List.length_filter_le _ _
    generalize lf.filter (fun n => !decide (n = key)) = lg at i3 hr hgl
    refine d_lst w (szl (by simp)) fun e B4 H4 he s4 i4 w => ?_
    have i3 := s4 _ _ i3
    have ho := s4 _ _ ho
    have lb := lb.mono s4
    have s14 := same_trans s1 (same_trans s2 s4)
    refine r_eqLI (ns := lg) (ms := []) (SqL.of (w.rd i3)) (SqL.of (w.rd i4)) ?_
    wtm_at "go"
    wtm_at "br"
    · intro c4
      wtm_at "go"
      refine r_fld (w.rd ho) T.cl_Leaves T.na_Leaves_parted rfl ?_
      refine r_bmL (SqL.of (w.get (List.mem_cons_self ..))) ?_
      wtm_at "go"
      refine r_popAt (w.get (List.mem_cons_self ..)) (k := k0) (y := .ref z.1) (by rw [List.length_map]; omega) ?_ ?_
      · rw [List.getElem?_map, hz]
        rfl
      have w := w.put0 (.lst ((rfZ zs).eraseIdx k0))
      rw [← rfZ_del] at w ⊢
      wtm_at "go"
      refine k _ _ _ s14 (lb.del (k := k0)) w ?_
      rw [lsZ_del, hr, if_pos (of_decide_eq_true c4)]
    · intro c4
      wtm_at "go"
      refine r_fld (w.rd ho) T.cl_Leaves T.na_Leaves_parted rfl ?_
      wtm_at "go"
      refine r_setL (w.get (List.mem_cons_self ..)) (k := k0) (by rw [List.length_map]; exact c3) ?_
      have w := w.put0 (.lst ((rfZ zs).set k0 (V.ref D1)))
      rw [← rfZ_set _ k0 D1 lg] at w ⊢
      have lb2 := lb.set (k := k0) i3
      have hg8 : lg.length ≤ 8 := by omega
      have l82 : ∀ l ∈ lsZ (zs.set k0 (D1, lg)), l.length ≤ 8 := fun l hl => by
        rw [lsZ_set] at hl
        rcases List.mem_or_eq_of_mem_set hl with hl | rfl
        · exact l8 l hl
        · exact hg8
      wtm_at "go"
      refine r_meth (w.rd ho) rfl ?_
      wtm_at "go"
      refine ⟨_, _, rfl, a, q, _, _, B4, L, rfl, rfl, lb2, w, l82, fun B5 H5 zs5 s5 lb5 w e5 => ?_⟩
      have ho := s5 _ _ ho
      wtm_at "go"
      refine r_meth (w.rd ho) rfl ?_
      wtm_at "go"
      refine ⟨_, _, rfl, a, q, zs5, _, B5, L, rfl, rfl, lb5, w, by rw [e5]; exact jn_l8 l82, fun B6 H6 zs6 s6 lb6 w e6 => ?_⟩
      wtm_at "go"
      refine k _ _ _ (same_trans s14 (same_trans s5 s6)) lb6 w ?_
      rw [e6, e5, lsZ_set, hr, if_neg (of_decide_eq_false c4)]

abbrev clZ (zs : Zs) : List Cell := zs.map fun z => (z.1, HO.lst (z.2.map V.int))
def sp_Leaves_all_of (K : PySem.W.Frag) (D : Ad) : Sp := Sp1 fun x H Q _ => ∃ (a q : Addr) (zs : Zs) (B : Hp) (L : List Cell), x = .ref a ∧ LvB D B a q zs ∧ W B ((q, .lst (rfZ zs)) :: L) H ∧
  ∀ (p : Addr) (B' H' : Hp) (ys : Zs), Same B B' → lsZ ys = lsZ zs → W B' ((p, .lst (rfZ ys)) :: (clZ ys ++ ((q, .lst (rfZ zs)) :: L))) H' → Q (.ref p) H'
def sp_Leaves_many (K : PySem.W.Frag) (D : Ad) : Sp := Sp1 fun x H Q _ => ∃ (a q : Addr) (zs : Zs) (B : Hp) (L : List Cell), x = .ref a ∧ LvB D B a q zs ∧ W B ((q, .lst (rfZ zs)) :: L) H ∧
  ∀ (B' H' : Hp), Same B B' → W B' ((q, .lst (rfZ zs)) :: L) H' → Q (.int ((lsZ zs).map fun l => (l.length : Int)).sum) H'
/-- a Leaves that is fit -/
theorem Lv.mk' {D : Ad} {B H : Hp} {L : List Cell} {a q : Addr} {zs : Zs} (b : LvB D B a q zs) (w : W B ((q, .lst (rfZ zs)) :: L) H) (i : LInv (lsZ zs)) : Lv D B H L a q zs := ⟨b, w, i.neD, i.hdUp, i.l8⟩

/-! leaves and the list of their keys -/
structure Kt (D : Ad) (B H : Hp) (L : List Cell) (a q : Addr) (zs : Zs) (ns : List Int) : Prop where
  b : LvB D B a q zs
  w : W B ((q, .lst (rfZ zs)) :: L) H
  i : LInv (lsZ zs)
  p : (lsZ zs).flatten.Perm ns
  le : ns.length ≤ 1000
theorem fl_ge : ∀ {ls : List (List Int)}, (∀ l ∈ ls, l ≠ []) → ls.length ≤ ls.flatten.length
  | [], _ => by simp
  | l :: r, h => by
    have h1 := List.length_pos_iff.mpr (h l (List.mem_cons_self ..))
    have h2 := fl_ge (ls := r) fun x hx => h x (List.mem_cons_of_mem _ hx)
    rw [List.flatten_cons, List.length_append, List.length_cons]
    omega
theorem up_eq {xs ys : List Int} (h : xs.Perm ys) (hx : xs.Pairwise (· ≤ ·)) (hy : ys.Pairwise (· ≤ ·)) : xs = ys := h.eq_of_pairwise (fun _ _ _ _ => Int.le_antisymm) hx hy
section
variable {D : Ad} {B B' H H' : Hp} {L L' : List Cell} {a q : Addr} {zs zs' : Zs} {ns : List Int} {n : Int}
theorem Kt.nd (h : Kt D B H L a q zs ns) : ns.Nodup := (h.p.nodup_iff).mp (h.i.srt.imp fun hx => by omega)
theorem Kt.few (h : Kt D B H L a q zs ns) : zs.length ≤ 1000 := by
  have h1 := fl_ge h.i.ne
  have h2 := h.p.length_eq
  have h3 := h.le
  rw [List.length_map] at h1
  omega
theorem Kt.mv (h : Kt D B H L a q zs ns) (s : Same B B') (w : W B' ((q, .lst (rfZ zs)) :: L') H') : Kt D B' H' L' a q zs ns := ⟨h.b.mono s, w, h.i, h.p, h.le⟩
theorem Kt.lv (h : Kt D B H L a q zs ns) : Lv D B H L a q zs := .mk' h.b h.w h.i
theorem Kt.has (h : Kt D B H L a q zs ns) : hsL (lsZ zs) n = decide (n ∈ ns) := by
  rw [hsL_eq h.i, decide_eq_decide]
  exact h.p.mem_iff
theorem Kt.add (h : Kt D B H L a q zs ns) (hn : n ∉ ns) (hl : ns.length < 1000) (b : LvB D B' a q zs') (w : W B' ((q, .lst (rfZ zs')) :: L') H') (r : AddR (lsZ zs) n (lsZ zs')) : Kt D B' H' L' a q zs' (ns ++ [n]) := by
  obtain ⟨h1, h2⟩ := add_law h.i (fun hm => hn (h.p.mem_iff.mp hm)) r
  exact ⟨b, w, h1, h2.trans ((h.p.cons n).trans (List.perm_append_singleton _ _).symm), by simp; omega⟩
theorem Kt.del (h : Kt D B H L a q zs ns) (hn : n ∈ ns) (b : LvB D B' a q zs') (w : W B' ((q, .lst (rfZ zs')) :: L') H') (r : lsZ zs' = dsL (lsZ zs) n) : Kt D B' H' L' a q zs' (ns.erase n) := by
  obtain ⟨h1, h2⟩ := dis_law h.i (h.p.mem_iff.mpr hn)
  refine ⟨b, w, by rw [r]; exact h1, ?_, by have := h.le; have := (List.erase_sublist (a := n) (l := ns)).length_le; omega⟩
  have e : ns.erase n = ns.filter fun m => !decide (m = n) := by
    rw [h.nd.erase_eq_filter]
    exact List.filter_congr fun m _ => by by_cases e : m = n <;> simp [e]
  rw [r, h2, e]
  exact h.p.filter _
theorem Kt.fl (h : Kt D B H L a q zs ns) (so : ns.Pairwise (· < ·)) : (lsZ zs).flatten = ns := up_eq h.p (h.i.srt.imp fun hx => by omega) (so.imp fun hx => by omega)
end

/-! Makes: the object and what its lists bear stay; the dict and its lists are owned -/
structure MkB (D : Ad) (B : Hp) (mo bk : Addr) (ls : List Lt) : Prop where
  obj : ∃ dx, B mo = some (.ins D.c_Makes dx [("by_key", .ref bk)])
  at_ : ∀ e ∈ ls, ∀ t ∈ e.2.2, B t.1 = some (.tup [.int t.2.1, oV t.2.2])
  nd : (ksM ls).Nodup
theorem nd_new {ls : List Lt} {k : Int} (p : Addr) {ts : List Mt} (h : (ksM ls).Nodup) (hn : k ∉ ksM ls) : (ksM (ls ++ [(k, p, ts)])).Nodup := by
  rw [ksM_new]
  exact List.nodup_append.mpr ⟨h, by simp, fun a ha b hb e => hn (by rw [List.mem_singleton] at hb; rw [← hb, ← e]; exact ha)⟩
section
variable {D : Ad} {B B' : Hp} {mo bk : Addr} {ls : List Lt}
theorem MkB.mono (h : MkB D B mo bk ls) (s : Same B B') : MkB D B' mo bk ls := ⟨h.obj.imp fun _ e => s _ _ e, fun e he t ht => s _ _ (h.at_ e he t ht), h.nd⟩
end
/-- key -> its makes -/
abbrev MkF := Int → List Mk
def addF (f : MkF) (k : Int) (m : Mk) : MkF := fun k' => if k' = k then f k ++ [m] else f k'
def sp_Makes_init (K : PySem.W.Frag) (D : Ad) : Sp := Sp1 fun x H Q _ => ∃ (a dx : Addr) (B : Hp) (L : List Cell), x = .ref a ∧ W B ((a, .ins D.c_Makes dx []) :: L) H ∧
  ∀ (bk : Addr) (B' H' : Hp), Same B B' → MkB D B' a bk [] → W B' ((bk, .dK []) :: L) H' → Q .non H'
theorem ok_Makes_init {D : Ad} (T : Txt K mg D) : FnOk P w K mg base (L2.CX P w) 1 D.a_Makes_init D.d_Makes_init ["self"] (sp_Makes_init K D) := by
  refine T.F_Makes_init.okX sc_Makes_init (fun vs H Q E h => sp1_len h) (fun cdv A outer s H vs Q E hr h => ⟨_, (pss_one (ps_fld (pv 0) pe_dnewK rfl)), ?_⟩)
  obtain ⟨x0, rfl, h⟩ := h
  rw [show L2.start n_Makes_init [x0] = [some x0] from rfl]
  try dsimp only [cxOf]
  obtain ⟨a, dx, B, L, rfl, w, k⟩ := h
  wtm_at "go"
  intro bk hbk
  have w := w.newL hbk (.dK [])
  generalize upd H bk (.dK []) = H1 at *
  wtm_at "go"
  refine r_sfld (w.get (by wtm_at "mem")) T.cl_Makes T.na_Makes_by_key (by simp) ?_
  have w := W.put1 w (.ins D.c_Makes dx (putF "by_key" (.ref bk) []))
  have w2 := W.perm w (List.Perm.swap _ _ _)
  wtm_at "go"
  refine k bk _ _ ?_ ?_ w2.give
  · exact fun b u e => by rw [upd_ne (ne_of_none e (w2.out _ (List.mem_cons_self ..)))]; exact e
  · exact ⟨⟨dx, by rw [upd_same]; rfl⟩, nofun, List.nodup_nil⟩

def sp_Makes_add (K : PySem.W.Frag) (D : Ad) : Sp := Sp4 fun x y z u H Q _ => ∃ (mo bk : Addr) (ls : List Lt) (key mm : Int) (v : Option Int) (B : Hp) (L : List Cell), x = .ref mo ∧ y = .int key ∧ z = .int mm ∧ u = oV v ∧ MkB D B mo bk ls ∧ W B ((bk, .dK (dkM ls)) :: (ls.map ltC ++ L)) H ∧ ls.length < 10000 ∧ (∀ k, (mkL ls k).length < 10000) ∧
  ∀ (B' H' : Hp) (ls' : List Lt), Same B B' → MkB D B' mo bk ls' → W B' ((bk, .dK (dkM ls')) :: (ls'.map ltC ++ L)) H' → mkM ls' = addF (mkM ls) key (mm, v) → (∀ k, k ∈ ksM ls' ↔ k = key ∨ k ∈ ksM ls) → ls'.length ≤ ls.length + 1 → Q .non H'
theorem ok_Makes_add {D : Ad} (T : Txt K mg D) : FnOk P w K mg base (L2.CX P w) 1 D.a_Makes_add D.d_Makes_add ["self", "key", "moment", "value"] (sp_Makes_add K D) := by
  refine T.F_Makes_add.okX sc_Makes_add (fun vs H Q E h => sp4_len h) (fun cdv A outer s H vs Q E hr h => ⟨_, (pss_one (ps_expr (pe_bm PySem.F.plainAttrs_list PySem.F.slot_list_append PySem.F.type_list_append mt_append (pe_dsetd (pe_fld (pv 0) rfl) (pv 1) (pe_lst pa_nil) ⟨rfl, by rfl, rfl, rfl⟩) (pa_cons (pe_tup (pa_cons (pv 2) (pa_cons (pv 3) pa_nil))) pa_nil)))), ?_⟩)
  obtain ⟨x0, x1, x2, x3, rfl, h⟩ := h
  rw [show L2.start n_Makes_add [x0, x1, x2, x3] = [some x0, some x1, some x2, some x3] from rfl]
  try dsimp only [cxOf]
  obtain ⟨mo, bk, ls, key, mm, v, B, L, rfl, rfl, rfl, rfl, mb, w, hls, hll, k⟩ := h
  obtain ⟨dx, ho⟩ := mb.obj
  have hbk := w.get (List.mem_cons_self ..)
  wtm_at "go"
  refine g_dsetd ?_
  wtm_at "go"
  refine r_fld (w.rd ho) T.cl_Makes T.na_Makes_by_key rfl ?_
  wtm_at "go"
  refine r_dsetd1 (isD_of hbk) ?_
  wtm_at "go"
  refine o_lst w (szl (by simp)) fun pl H1 hpl w => ?_
  have hbk := w.get (List.mem_cons_of_mem _ (List.mem_cons_self ..))
  refine r_dsetd hbk (szlt (by rw [dkM_len]; omega)) (fun v0 hv0 => ?_) fun hn => ?_
  · have hin : key ∈ ksM ls := by
      have := (dkM_ks ls).isSome (n := key)
      rw [hv0] at this
      simpa using this.symm
    obtain ⟨i, p, ts, hi, hf, hj⟩ := find_at hin
    rw [dkM_get hf] at hv0
    cases hv0
    have hts : ts.length < 10000 := by have := hll key; rw [mkL_at hf] at this; exact this
    have w := W.drop1 w
    have hp : H1 p = some (.lst (ts.map fun t => V.ref t.1)) := W.getAt (A := [(bk, .dK (dkM ls))]) (C := ls.map ltC) (i := i) w (by rw [List.getElem?_map, hi]; rfl)
    refine r_bmL (SqL.of hp) ?_
    wtm_at "go"
    refine d_tup w (szl (by simp)) fun pt B2 H2 hpt s2 i2 w => ?_
    have hp : H2 p = some (.lst (ts.map fun t => V.ref t.1)) := W.getAt (A := [(bk, .dK (dkM ls))]) (C := ls.map ltC) (i := i) w (by rw [List.getElem?_map, hi]; rfl)
    wtm_at "go"
    refine r_append hp (szlt (by rw [List.length_map]; omega)) ?_
    have w := W.setAt (A := [(bk, .dK (dkM ls))]) (C := ls.map ltC) (i := i) w (by rw [List.getElem?_map, hi]; rfl) (.lst ((ts.map fun t => V.ref t.1) ++ [.ref pt]))
    wtm_at "go"
    have e1 : (ts.map fun t => V.ref t.1) ++ [V.ref pt] = (ts ++ [((pt, mm, v) : Mt)]).map fun t => V.ref t.1 := by rw [List.map_append]; rfl
    have e2 := ltC_set (ls := ls) (i := i) (k := key) (p := p) (us := ts ++ [(pt, mm, v)])
    refine k B2 _ (ls.set i (key, p, ts ++ [(pt, mm, v)])) s2 ⟨⟨dx, s2 _ _ ho⟩, fun e he t ht => ?_, by rw [ksM_set hi]; exact mb.nd⟩ (by rw [dkM_set hi, e2, ← e1]; exact w) ?_ (fun k' => ?_) (by rw [List.length_set]; omega)
    · rcases List.mem_or_eq_of_mem_set he with he | rfl
      · exact s2 _ _ (mb.at_ e he t ht)
      · rcases List.mem_append.mp ht with ht | ht
        · exact s2 _ _ (mb.at_ _ (List.mem_of_getElem? hi) t ht)
        · rw [List.mem_singleton.mp ht]
          exact i2
    · funext k'
      unfold mkM addF
      rw [mkL_set hi hj]
      by_cases c : k' = key
      · rw [if_pos c, if_pos c]
        show _ = (mkL ls key).map (·.2) ++ _
        rw [mkL_at hf, List.map_append]
        rfl
      · rw [if_neg c, if_neg c]
    · rw [ksM_set hi]
      exact ⟨.inr, fun h => h.elim (fun e => e ▸ hin) id⟩
  · have hnin : key ∉ ksM ls := fun hin => by
      obtain ⟨u, hu⟩ := (dkM_ks ls).some hin
      rw [hu] at hn
      cases hn
    have w := w.put1 (.dK (putK (dkM ls) (Sum.inl key) (.ref pl)))
    have hp := w.get (List.mem_cons_self ..)
    generalize upd H1 bk (.dK (putK (dkM ls) (Sum.inl key) (.ref pl))) = H2 at *
    refine r_bmL (SqL.of hp) ?_
    wtm_at "go"
    refine d_tup w (szl (by simp)) fun pt B3 H3 hpt s3 i3 w => ?_
    wtm_at "go"
    refine r_append (w.get (List.mem_cons_self ..)) (szlt (by simp)) ?_
    have w := w.put0 (.lst ([] ++ [.ref pt]))
    wtm_at "go"
    rw [dkM_new pl [(pt, mm, v)] hnin] at w
    refine k B3 _ (ls ++ [(key, pl, [(pt, mm, v)])]) s3 ⟨⟨dx, s3 _ _ ho⟩, fun e he t ht => ?_, nd_new pl mb.nd hnin⟩ ?_ ?_ (fun k' => ?_) (by rw [List.length_append]; simp)
    · rcases List.mem_append.mp he with he | he
      · exact s3 _ _ (mb.at_ e he t ht)
      · rw [List.mem_singleton.mp he] at ht
        rw [List.mem_singleton.mp ht]
        exact i3
    · refine w.perm ?_
      rw [List.map_append]
      refine (List.Perm.swap _ _ _).trans (List.Perm.cons _ ?_)
      show ((pl, HO.lst [V.ref pt]) :: (ls.map ltC ++ L)).Perm ((ls.map ltC ++ [(pl, HO.lst [V.ref pt])]) ++ L)
      rw [List.append_assoc]
      exact List.perm_middle.symm
    · funext k'
      unfold mkM addF
      rw [mkL_new hnin]
      by_cases c : k' = key
      · rw [if_pos c, if_pos c]
        show _ = (mkL ls key).map (·.2) ++ _
        rw [mkL_not hnin]
        rfl
      · rw [if_neg c, if_neg c]
    · unfold ksM
      rw [List.map_append]
      simp only [List.mem_append, List.map_cons, List.map_nil, List.mem_singleton]
      exact ⟨fun h => h.elim .inr .inl, fun h => h.elim .inr .inl⟩

def tsV (ts : List Mt) : List V := ts.map fun t => V.ref t.1
def sp_Makes_made (K : PySem.W.Frag) (D : Ad) : Sp := Sp2 fun x y H Q _ => ∃ (mo bk : Addr) (ls : List Lt) (key : Int) (B : Hp) (L : List Cell), x = .ref mo ∧ y = .int key ∧ MkB D B mo bk ls ∧ W B ((bk, .dK (dkM ls)) :: (ls.map ltC ++ L)) H ∧ (∀ k, (mkL ls k).length < 10000) ∧
  ∀ (p : Addr) (B' H' : Hp), Same B B' → W B' ((p, .lst (tsV (mkL ls key))) :: (bk, .dK (dkM ls)) :: (ls.map ltC ++ L)) H' → Q (.ref p) H'
/-- makes as data -/
def pdM (ms : List Mk) : PyData := .list (ms.map fun m => .tuple [.int m.1, match m.2 with | none => .none | some v => .int v])
theorem dp_M {K : PySem.W.Frag} {H : Hp} : ∀ {ts : List Mt}, (∀ t ∈ ts, H t.1 = some (.tup [.int t.2.1, oV t.2.2])) → DpAll K H (tsV ts) ((ts.map (·.2)).map fun m => .tuple [.int m.1, match m.2 with | none => .none | some v => .int v])
  | [], _ => .nil
  | t :: ts, h => by
    refine .cons ?_ (dp_M fun u hu => h u (List.mem_cons_of_mem _ hu))
    have ht := h t (List.mem_cons_self ..)
    obtain ⟨p, m, v⟩ := t
    cases v with
    | none => exact .tup (SqT.of ht) (.cons (.int _) (.cons .non .nil))
    | some v => exact .tup (SqT.of ht) (.cons (.int _) (.cons (.int _) .nil))
theorem can_M : ∀ ms : List Mk, PyData.canLayAll0 (ms.map fun m => PyData.tuple [.int m.1, match m.2 with | none => .none | some v => .int v]) = true
  | [] => rfl
  | (m, v) :: ms => by
    have := can_M ms
    cases v <;> simp [PyData.canLayAll0, PyData.canLay0] <;> simpa using this
theorem dep_M : ∀ ms : List Mk, PyData.depthAll (ms.map fun m => PyData.tuple [.int m.1, match m.2 with | none => .none | some v => .int v]) ≤ 1
  | [] => by simp [PyData.depthAll]
  | (m, v) :: ms => by
    have := dep_M ms
    cases v <;> simp only [List.map_cons, PyData.depthAll, PyData.depth] <;> omega
theorem sh_M (ms : List Mk) : SeqAt.shaped (pdM ms) = true := by
  have a1 := can_M ms
  have a2 := dep_M ms
  refine Bool.and_eq_true_iff.mpr ⟨?_, decide_eq_true ?_⟩
  · unfold pdM
    simp only [PyData.canLay0]
    exact a1
  · unfold pdM
    simp only [PyData.depth]
    omega
theorem eqv_M0 (ms : List Mk) : PyData.eqv (pdM ms) (.list []) = decide (ms = []) := by
  cases ms with
  | nil => simp [pdM, PyData.eqv, PyData.eqvAll]
  | cons m ms => simp [pdM, PyData.eqv, PyData.eqvAll]

/-! Makes: what is thrown away -/
def sp_needed (K : PySem.W.Frag) (D : Ad) : Sp := Sp2 fun x y H Q _ => ∃ (p : Addr) (ts : List Mt) (fl : Int) (B : Hp) (L : List Cell), x = .ref p ∧ y = .int fl ∧ B p = some (.lst (tsV ts)) ∧ (∀ t ∈ ts, B t.1 = some (.tup [.int t.2.1, oV t.2.2])) ∧ ts.length < 10000 ∧ W B L H ∧
  ∀ (q : Addr) (B' H' : Hp), Same B B' → W B' ((q, .lst (tsV (neT fl ts))) :: L) H' → Q (.ref q) H'
theorem tsV_at {ts : List Mt} {i : Nat} {x : V} (h : (tsV ts)[i]? = some x) : ∃ t, ts[i]? = some t ∧ x = .ref t.1 := by
  unfold tsV at h
  rw [List.getElem?_map] at h
  cases e : ts[i]? with
  | none => rw [e] at h; cases h
  | some t => rw [e] at h; cases h; exact ⟨t, rfl, rfl⟩
theorem tsV_len (ts : List Mt) : (tsV ts).length = ts.length := List.length_map ..
theorem filt_le {α : Type} (P : α → Bool) (xs : List α) (i : Nat) : ((xs.take i).filter P).length ≤ i := by
  have h1 := List.length_filter_le P (xs.take i)
  rw [List.length_take] at h1
  omega
theorem ok_needed {D : Ad} (T : Txt K mg D) : FnOk P w K mg base (L2.CX P w) 1 D.a_needed D.d_needed ["makes", "floor"] (sp_needed K D) := by
  refine T.F_needed.okX sc_needed (fun vs H Q E h => sp2_len h) (fun cdv A outer s H vs Q E hr h => ⟨_, (pss_cons (ps_setLc (i := 2) (own := [("make", 4)]) (g := gName 4) rfl sc_needed.nd rfl rfl (sw_true rfl rfl rfl (by decide +kernel)) (pi_list (pv 0)) (blkOk_by (own := [("make", 4)]) (N := n_needed) (sc := defScope s_needed) (by decide +kernel)) (fun _ _ _ _ _ => (pg_name (i := 4) sc_needed.nd rfl (Or.inl rfl))) (fun _ _ _ _ _ => (pts_one (pt_cmpR op_le (pe_ix (r := rIxT K) ix_tup (pv 4) pe_int (fun _ _ => rfl)) (pv 1) (nomark _)))) (fun _ _ _ _ _ => (pv 4)))
    (pss_cons (ps_setLc (i := 3) (own := [("make", 4)]) (g := gName 4) rfl sc_needed.nd rfl rfl (sw_true rfl rfl rfl (by decide +kernel)) (pi_list (pv 0)) (blkOk_by (own := [("make", 4)]) (N := n_needed) (sc := defScope s_needed) (by decide +kernel)) (fun _ _ _ _ _ => (pg_name (i := 4) sc_needed.nd rfl (Or.inl rfl))) (fun _ _ _ _ _ => (pts_one (pt_cmpR op_gt (pe_ix (r := rIxT K) ix_tup (pv 4) pe_int (fun _ _ => rfl)) (pv 1) (nomark _)))) (fun _ _ _ _ _ => (pv 4)))
    (pss_cons (ps_if (PW.pt (pw_and (pt_cmpR (op_neD hr.units) (pv 2) (pe_lst pa_nil) (nomark _)) (pw_and1 (pt_cmpR op_notNo (pe_ix ix_tup (pe_ix ix_list (pv 2) (pe_un un_neg pe_int) (fun _ _ => rfl)) pe_int (fun _ _ => rfl)) pe_non (nomark _)))))
      (pss_one (ps_ret (pe_op op_cat (pe_lst (pa_cons (pe_ix ix_list (pv 2) (pe_un un_neg pe_int) (fun _ _ => rfl)) pa_nil)) (pv 3))))
      pss_nil)
    (pss_one (ps_ret (pv 3)))))), ?_⟩)
  obtain ⟨x0, x1, rfl, h⟩ := h
  rw [show L2.start n_needed [x0, x1] = [some x0, some x1, none, none, none] from rfl]
  try dsimp only [cxOf]
  obtain ⟨p, ts, fl, B, L, rfl, rfl, hp, at_, hl, w, k⟩ := h
  wtm_at "go"
  refine r_il (SqL.of (w.rd hp)) ?_
  intro D1 hD1
  refine LC.list (K := K) w hD1 (SqL.of hp) (szlt (by rw [tsV_len]; omega)) (fun i B acc => acc = tsV (neA fl (ts.take i))) rfl ?_ ?_
  · rintro i x B2 acc H2 Nx hi s2 w rfl hl1 hl2 hN
    obtain ⟨t, ht, rfl⟩ := tsV_at hi
    have a2 := w.rd (s2 _ _ (at_ t (List.mem_of_getElem? ht)))
    have htk := tk_filter (P := fun t : Mt => decide (t.2.1 ≤ fl)) ht
    have hfl := filt_le (fun t : Mt => decide (t.2.1 ≤ fl)) ts i
    wtm_at "go"
    refine ⟨rfl, ?_⟩
    wtm_at "go"
    by_cases c : t.2.1 ≤ fl
    · wtm_at "go"
      refine r_acc w hl2 fun H3 w => ?_
      refine hN _ _ _ (same_refl _) w ?_ (by rw [List.length_append, tsV_len]; unfold neA; simp only [List.length_singleton]; omega)
      unfold neA
      rw [htk, if_pos (decide_eq_true c)]
      unfold tsV
      rw [List.map_append]
      rfl
    · wtm_at "go"
      refine hN _ _ _ (same_refl _) w ?_ (by rw [tsV_len]; unfold neA; omega)
      unfold neA
      rw [htk, if_neg (by simp; omega), List.append_nil]
  rintro B2 B3 acc H3 s3 _ i3 w rfl hl1
  rw [tsV_len, List.take_length] at i3
  have hp := s3 _ _ hp
  wtm_at "go"
  refine r_il (SqL.of (w.rd hp)) ?_
  intro D2 hD2
  refine LC.listA (K := K) w hD2 (fun B' A acc H s w => SqL.of (w.rd (s _ _ hp))) (szlt (by rw [tsV_len]; omega)) (fun i B A acc => A = [] ∧ acc = tsV (neB fl (ts.take i))) ⟨rfl, rfl⟩ ?_ ?_
  · rintro i x B4 _ acc H4 Nx hi s4 w ⟨rfl, rfl⟩ hl1 hl2 hN
    obtain ⟨t, ht, rfl⟩ := tsV_at hi
    have a2 := w.rd (s4 _ _ (s3 _ _ (at_ t (List.mem_of_getElem? ht))))
    have htk := tk_filter (P := fun t : Mt => decide (fl < t.2.1)) ht
    have hfl := filt_le (fun t : Mt => decide (fl < t.2.1)) ts i
    wtm_at "go"
    refine ⟨rfl, ?_⟩
    wtm_at "go"
    by_cases c : fl < t.2.1
    · wtm_at "go"
      refine r_acc w hl2 fun H3 w => ?_
      refine hN _ [] _ _ (same_refl _) w ⟨rfl, ?_⟩ (by rw [List.length_append, tsV_len]; unfold neB; simp only [List.length_singleton]; omega)
      unfold neB
      rw [htk, if_pos (decide_eq_true c)]
      unfold tsV
      rw [List.map_append]
      rfl
    · wtm_at "go"
      refine hN _ [] _ _ (same_refl _) w ⟨rfl, ?_⟩ (by rw [tsV_len]; unfold neB; omega)
      unfold neB
      rw [htk, if_neg (by simp; omega), List.append_nil]
  rintro B4 _ acc H4 s4 w ⟨rfl, rfl⟩ hl1
  rw [tsV_len, List.take_length] at w
  have i3 := s4 _ _ i3
  have s14 := same_trans s3 s4
  have at4 : ∀ t ∈ ts, B4 t.1 = some (.tup [.int t.2.1, oV t.2.2]) := fun t ht => s14 _ _ (at_ t ht)
  have w : W B4 ((D2, .lst (tsV (neB fl ts))) :: L) H4 := w
  clear at_ hp
  wtm_at "go"
  refine d_lst w (szl (by simp)) fun p5 B5 H5 hp5 s5 i5 w => ?_
  have i3 := s5 _ _ i3
  have d1 : Dp K H5 (.ref D1) (pdM ((neA fl ts).map (·.2))) := .lst (SqL.of (w.rd i3)) (dp_M fun t ht => w.rd (s5 _ _ (at4 t (List.mem_filter.mp ht).1)))
  refine r_neDv d1 (.lst (SqL.of (w.rd i5)) .nil) (sh_M _) rfl (eqv_M0 _) ?_
  have hk : ∀ (us : List Mt), neT fl ts = us → W B5 ((D2, .lst (tsV us)) :: L) H5 → Q (.ref D2) H5 := fun us e w => k D2 B5 H5 (same_trans s14 s5) (by rw [e]; exact w)
  cases ets : (neA fl ts).getLast? with
  | none =>
    have hts : neA fl ts = [] := List.getLast?_eq_none_iff.mp ets
    rw [decide_eq_true (by rw [hts]; rfl)]
    wtm_at "go"
    exact hk (neB fl ts) (by unfold neT; rw [ets]) w
  | some t =>
    have hts : neA fl ts ≠ [] := fun e => by rw [e] at ets; cases ets
    have htm : t ∈ ts := (List.mem_filter.mp (List.mem_of_getLast? ets)).1
    have hat := w.rd (s5 _ _ (at4 t htm))
    obtain ⟨pt, m, v⟩ := t
    rw [decide_eq_false (by rw [List.map_eq_nil_iff]; exact hts)]
    have el : atI (tsV (neA fl ts)) (-1) = some (.ref pt) := atI_lastV (by unfold tsV; rw [List.getLast?_map, ets]; rfl)
    wtm_at "go"
    refine r_ixL (SqL.of (w.rd i3)) el ?_
    cases v with
    | none =>
      have hat : H5 pt = some (.tup [.int m, .non]) := hat
      wtm_at "go"
      exact hk (neB fl ts) (by unfold neT; rw [ets]) w
    | some v =>
      have hat : H5 pt = some (.tup [.int m, .int v]) := hat
      wtm_at "go"
      refine r_ixL (SqL.of (w.rd i3)) el ?_
      wtm_at "go"
      refine d_lst w (szl (by simp)) fun p6 B6 H6 hp6 s6 i6 w => ?_
      wtm_at "go"
      have hnl := neT_len fl ts
      have ent : neT fl ts = (pt, m, some v) :: neB fl ts := by unfold neT; rw [ets]
      rw [ent, List.length_cons] at hnl
      refine o_cat w (w.rd i6) (w.get (List.mem_cons_self ..)) (szl (by rw [tsV_len]; simp only [List.length_cons, List.length_nil]; omega)) fun q H7 hq w => ?_
      refine k q B6 H7 (same_trans s14 (same_trans s5 s6)) ?_
      rw [ent]
      exact (w.perm (List.Perm.swap _ _ _)).drop1

def sp_Makes_thrown (K : PySem.W.Frag) (D : Ad) : Sp := Sp2 fun x y H Q _ => ∃ (mo bk : Addr) (ls : List Lt) (fl : Int) (B : Hp) (L : List Cell), x = .ref mo ∧ y = .int fl ∧ MkB D B mo bk ls ∧ W B ((bk, .dK (dkM ls)) :: (ls.map ltC ++ L)) H ∧ ls.length < 10000 ∧ (∀ k, (mkL ls k).length < 10000) ∧
  ∀ (B' H' : Hp) (ls' : List Lt), Same B B' → MkB D B' mo bk ls' → W B' ((bk, .dK (dkM ls')) :: (ls'.map ltC ++ L)) H' → ksM ls' = (ksM ls).filter (fun k => decide (neM fl (mkM ls k) ≠ [])) → mkM ls' = (fun k => neM fl (mkM ls k)) → (∀ k, (mkL ls' k).length ≤ (mkL ls k).length) → ls'.length ≤ ls.length → Q (.int (totI ls - totI ls')) H'
theorem permL {ls : List Lt} {j : Nat} {e : Lt} {b : Cell} {L : List Cell} (h : ls[j]? = some e) : (b :: (ls.map ltC ++ L)).Perm (ltC e :: b :: ((ls.eraseIdx j).map ltC ++ L)) :=
  ((((at_perm h).map ltC).append_right L).cons b).trans (List.Perm.swap _ _ _)
theorem permS {ls : List Lt} {j : Nat} {e e' : Lt} {b : Cell} {L : List Cell} (h : ls[j]? = some e) : (b :: ((ls.set j e').map ltC ++ L)).Perm (ltC e' :: b :: ((ls.eraseIdx j).map ltC ++ L)) :=
  ((((set_perm e' h).map ltC).append_right L).cons b).trans (List.Perm.swap _ _ _)
theorem ok_Makes_thrown {D : Ad} (T : Txt K mg D) : FnOk P w K mg base (L2.CX P w) 2 D.a_Makes_thrown D.d_Makes_thrown ["self", "floor"] (sp_Makes_thrown K D) := by
  refine T.F_Makes_thrown.okX sc_Makes_thrown (fun vs H Q E h => sp2_len h) (fun cdv A outer s H vs Q E hr h => ⟨_, (pss_cons (ps_set (i := 2) sc_Makes_thrown.nd rfl (Or.inl rfl) pe_int)
    (pss_cons (ps_for (passes_of rfl) rfl (pi_list (pe_callTy (call_listDZ rfl) (by rfl) T.n_list bt_list (pa_cons (pe_fld (pv 0) rfl) pa_nil))) (pg_name (i := 3) sc_Makes_thrown.nd rfl (Or.inl rfl))
      (pss_cons (ps_set (i := 4) sc_Makes_thrown.nd rfl (Or.inl rfl) (pe_call (ok_needed T) (hr.mono (by decide)) rfl T.g_needed T.F_needed.kp T.b_needed .nil pX (pa_cons (pe_dget (hu_of hr) (pe_fld (pv 0) rfl) (pv 3) (fun _ _ => rfl)) (pa_cons (pv 1) pa_nil))))
      (pss_cons (ps_set (i := 2) sc_Makes_thrown.nd rfl (Or.inl rfl) (pe_op op_sub (pe_op op_add (pv 2) (pe_callB call_lenZ (by rfl) T.n_len bt_len (pa_cons (pe_dget (hu_of hr) (pe_fld (pv 0) rfl) (pv 3) (fun _ _ => rfl)) pa_nil))) (pe_callB call_lenZ (by rfl) T.n_len bt_len (pa_cons (pv 4) pa_nil))))
      (pss_cons (ps_dput (hu_of hr) (pe_fld (pv 0) rfl) (pv 3) (pv 4) rfl)
      (pss_one (ps_if (pt_cmpR (op_eqD hr.units) (pv 4) (pe_lst pa_nil) (nomark _))
        (pss_one (ps_expr (pe_dpop1 (pe_fld (pv 0) rfl) (pv 3) ⟨rfl, by rfl, rfl, rfl⟩)))
        pss_nil))))))
    (pss_one (ps_ret (pv 2))))), ?_⟩)
  obtain ⟨x0, x1, rfl, h⟩ := h
  rw [show L2.start n_Makes_thrown [x0, x1] = [some x0, some x1, none, none, none] from rfl]
  try dsimp only [cxOf]
  obtain ⟨mo, bk, ls, fl, B, L, rfl, rfl, mb, w, hls, hll, k⟩ := h
  obtain ⟨dx, ho⟩ := mb.obj
  wtm_at "go"
  refine r_fld (w.rd ho) T.cl_Makes T.na_Makes_by_key rfl ?_
  wtm_at "go"
  refine d_listD w (w.get (List.mem_cons_self ..)) (dkM_ks ls) fun p1 B1 H1 s1 i1 w => ?_
  have hksl : (ksM ls).length = ls.length := List.length_map ..
  wtm_at "go"
  refine r_il (SqL.of (w.rd i1)) ?_
  refine FOR.list (K := K) (xs := (ksM ls).map V.int) (fun i σ H' => ∃ (v3 v4 : Option V) (B' : Hp) (ls' : List Lt), σ = [some (.ref mo), some (.int fl), some (.int (totI ls - totI ls')), v3, v4] ∧ Same B1 B' ∧ MkB D B' mo bk ls' ∧ W B' ((bk, .dK (dkM ls')) :: (ls'.map ltC ++ L)) H' ∧ Swp fl ls i ls' ∧ ls'.length ≤ ls.length ∧ ∀ k, (mkL ls' k).length ≤ (mkL ls k).length) ⟨none, none, B1, ls, by rw [Int.sub_self]; rfl, same_refl _, mb.mono s1, w, Swp.zero fl ls, Nat.le_refl _, fun _ => Nat.le_refl _⟩
    (fun i σ H' _ ⟨_, _, _, _, _, s, _, w, _⟩ => SqL.of (w.rd (s _ _ i1))) ?_ ?_
  · rintro i x σ H' hi ⟨v3, v4, B2, ls', rfl, s2, mb2, w, sw, hl2, hlk⟩
    obtain ⟨key, rfl, hkey, hil⟩ := getV hi
    obtain ⟨dx, ho⟩ := mb2.obj
    obtain ⟨hin, hmk⟩ := sw.at_ hkey mb.nd
    obtain ⟨j, p, ts, hj, hf, _⟩ := find_at hin
    have hqv := dkM_get hf
    have ets : ts.map (·.2) = mkM ls key := by rw [← hmk]; unfold mkM; rw [mkL_at hf]
    have etl : mkL ls' key = ts := mkL_at hf
    have htl : ts.length < 10000 := by have h1 := hlk key; have h2 := hll key; rw [etl] at h1; omega
    have w0 : W B2 ((p, .lst (tsV ts)) :: ((bk, .dK (dkM ls')) :: ((ls'.eraseIdx j).map ltC ++ L))) H' := w.perm (permL hj)
    have sB := same_new (o := .lst (tsV ts)) (w0.out _ (List.mem_cons_self ..))
    have ip : (upd B2 p (.lst (tsV ts))) p = some (.lst (tsV ts)) := upd_same
    have w1 := w0.give
    clear w w0
    generalize upd B2 p (.lst (tsV ts)) = B3 at *
    have mb3 := mb2.mono sB
    have at3 : ∀ t ∈ ts, B3 t.1 = some (.tup [.int t.2.1, oV t.2.2]) := fun t ht => mb3.at_ _ (List.mem_of_getElem? hj) t ht
    wtm_at "go"
    refine r_fld (w1.rd (sB _ _ ho)) T.cl_Makes T.na_Makes_by_key rfl ?_
    wtm_at "go"
    refine r_dge (w1.get (List.mem_cons_self ..)) hqv ?_
    wtm_at "go"
    refine ⟨_, _, rfl, p, ts, fl, B3, _, rfl, rfl, ip, at3, htl, w1, fun q B4 H4 s4 w => ?_⟩
    have ip := s4 _ _ ip
    have mb4 := mb3.mono s4
    have ho := s4 _ _ (sB _ _ ho)
    clear w1 mb2 mb3
    have nd' := mb4.nd
    wtm_at "go"
    refine r_fld (w.rd ho) T.cl_Makes T.na_Makes_by_key rfl ?_
    wtm_at "go"
    refine r_dge (w.get (List.mem_cons_of_mem _ (List.mem_cons_self ..))) hqv ?_
    wtm_at "go"
    refine r_lenL (SqL.of (w.rd ip)) ?_
    wtm_at "go"
    refine r_lenL (SqL.of (w.get (List.mem_cons_self ..))) ?_
    wtm_at "go"
    refine r_fld (w.rd ho) T.cl_Makes T.na_Makes_by_key rfl ?_
    wtm_at "go"
    refine r_dpu (w.get (List.mem_cons_of_mem _ (List.mem_cons_self ..))) (szlt (by rw [dkM_len]; omega)) ?_
    have w := w.put1 (.dK (putK (dkM ls') (Sum.inl key) (.ref q)))
    rw [dkM_putQ (us := neT fl ts) nd' hj] at w ⊢
    generalize upd H4 bk (.dK (dkM (ls'.set j (key, q, neT fl ts)))) = H5 at *
    have enm : (neT fl ts).map (·.2) = neM fl (mkM ls key) := by rw [neT_map, ets]
    have hnl := neT_len fl ts
    have sB4 := same_trans s2 (same_trans sB s4)
    wtm_at "go"
    refine d_lst w (szl (by simp)) fun p6 B6 H6 hp6 s6 i6 w => ?_
    have mb6 := mb4.mono s6
    have at6 : ∀ t ∈ ts, B6 t.1 = some (.tup [.int t.2.1, oV t.2.2]) := fun t ht => s6 _ _ (s4 _ _ (at3 t ht))
    have d1 : Dp K H6 (.ref q) (pdM ((neT fl ts).map (·.2))) := .lst (SqL.of (w.get (List.mem_cons_self ..))) (dp_M fun t ht => w.rd (at6 t (neT_sub ht)))
    refine r_eqDv d1 (.lst (SqL.of (w.rd i6)) .nil) (sh_M _) rfl (eqv_M0 _) ?_
    have ebl : ∀ us : List Mt, totI ls - totI ls' + (ts.length : Int) - (us.length : Int) = totI ls - (totI ls' + us.length - ts.length) := fun us => by omega
    by_cases c : (neT fl ts).map (·.2) = []
    · rw [decide_eq_true c]
      have c0 : neT fl ts = [] := List.map_eq_nil_iff.mp c
      have hjs : (ls'.set j (key, q, neT fl ts))[j]? = some (key, q, neT fl ts) := by rw [List.getElem?_set, if_pos rfl, if_pos (List.getElem?_eq_some_iff.mp hj).1]
      have hkv : valV (dkM (ls'.set j (key, q, neT fl ts))) (Sum.inl key) = some (.ref q) := by
        have nds : (ksM (ls'.set j (key, q, neT fl ts))).Nodup := by rw [ksM_setQ hj]; exact nd'
        obtain ⟨j2, q2, t2, hj2, hf2, _⟩ := find_at (ls := ls'.set j (key, q, neT fl ts)) (k := key) (by rw [ksM_setQ hj]; exact hin)
        have h1 : (ksM (ls'.set j (key, q, neT fl ts)))[j]? = some key := by unfold ksM; rw [List.getElem?_map, hjs]; rfl
        have h2 : (ksM (ls'.set j (key, q, neT fl ts)))[j2]? = some key := by unfold ksM; rw [List.getElem?_map, hj2]; rfl
        obtain rfl := (List.getElem?_inj (List.getElem?_eq_some_iff.mp h1).1 nds).mp (h1.trans h2.symm)
        rw [hjs] at hj2
        cases hj2
        exact dkM_get hf2
      obtain ⟨dx6, ho6⟩ := mb6.obj
      wtm_at "go"
      refine g_dpop1 ?_
      wtm_at "go"
      refine r_fld (w.rd ho6) T.cl_Makes T.na_Makes_by_key rfl ?_
      refine r_dpop1 (isD_of (w.get (List.mem_cons_of_mem _ (List.mem_cons_self ..)))) ?_
      wtm_at "go"
      refine r_dp1 (w.get (List.mem_cons_of_mem _ (List.mem_cons_self ..))) hkv ?_
      have nds : (ksM (ls'.set j (key, q, neT fl ts))).Nodup := by rw [ksM_setQ hj]; exact nd'
      have w := w.put1 (.dK (dropK (dkM (ls'.set j (key, q, neT fl ts))) (Sum.inl key)))
      have eer : (ls'.set j (key, q, neT fl ts)).eraseIdx j = ls'.eraseIdx j := List.eraseIdx_set_eq ..
      rw [dkM_er nds hjs, eer] at w ⊢
      generalize upd H6 bk (.dK (dkM (ls'.eraseIdx j))) = H7 at *
      wtm_at "go"
      refine ⟨some (.int key), some (.ref q), B6, ls'.eraseIdx j, ?_, same_trans sB4 s6, ⟨mb6.obj, fun e he t ht => ?_, ?_⟩, w.drop1, sw.step0 mb.nd hkey hj (by rw [← enm]; exact c), Nat.le_trans (List.length_eraseIdx_le ..) hl2, fun k' => ?_⟩
      · have := ebl (neT fl ts)
        rw [c0, List.length_nil] at this
        rw [totI_er hj, c0, tsV_len]
        have e9 : totI ls - totI ls' + (ts.length : Int) - (((tsV []).length : Nat) : Int) = totI ls - (totI ls' - (ts.length : Int)) := by
          show _ - (0 : Int) = _
          omega
        rw [← e9]
        rfl
      · exact mb6.at_ e (List.mem_of_mem_eraseIdx he) t ht
      · exact ((at_perm hj).map fun e : Lt => e.1).nodup_iff.mp nd' |> fun h => (List.nodup_cons.mp h).2
      · rw [mkL_er nd' hj]
        split
        · exact Nat.zero_le _
        · exact hlk k'
    · rw [decide_eq_false c]
      have c0 : neT fl ts ≠ [] := fun e => c (by rw [e]; rfl)
      wtm_at "go"
      refine ⟨some (.int key), some (.ref q), B6, ls'.set j (key, q, neT fl ts), ?_, same_trans sB4 s6, ⟨mb6.obj, fun e he t ht => ?_, by rw [ksM_setQ hj]; exact nd'⟩, ?_, sw.step mb.nd hkey hj enm c0, by rw [List.length_set]; exact hl2, fun k' => ?_⟩
      · rw [totI_setQ hj, tsV_len, tsV_len, ebl]
        rfl
      · rcases List.mem_or_eq_of_mem_set he with he | rfl
        · exact mb6.at_ e he t ht
        · exact at6 t (neT_sub ht)
      · exact w.perm (permS (e' := (key, q, neT fl ts)) hj).symm
      · rw [mkL_setQ nd' hj]
        split
        · rename_i c
          rw [c]
          have := hlk key
          rw [etl] at this
          omega
        · exact hlk k'
  · rintro σ H' ⟨v3, v4, B2, ls', rfl, s2, mb2, w, sw, hl2, hlk⟩
    rw [List.length_map, hksl] at sw
    wtm_at "go"
    exact k B2 H' ls' (same_trans s1 s2) mb2 w sw.all.1 sw.all.2 hlk hl2


/-! House -/
/-- what a row of the diary bears -/
inductive Dr where
  | put (k v : Int)
  | drop (k : Int)
  | mark (n : Int)
def Dr.vs : Dr → List V
  | .put k v => [.str "put", .int k, .int v]
  | .drop k => [.str "drop", .int k]
  | .mark n => [.str "mark", .int n]
/-- a house: now, floor, marked; slots (place, state, table); leaves (place, list's place, leaves); makes (place, dict's place, lots); diary (list's place, rows); holders (dict's place, dict) -/
structure Hh where
  now : Int
  floor : Int
  marked : Int
  sl : Addr
  s : Sl
  kv : Kv
  lv : Addr
  q : Addr
  zs : Zs
  mo : Addr
  bk : Addr
  ls : List Lt
  pg : Addr
  pgs : List (Addr × Dr)
  hd : Addr
  hs : List (Key × V)
def Hh.fs (h : Hh) : List (Str × V) := [("now", .int h.now), ("floor", .int h.floor), ("slots", .ref h.sl), ("leaves", .ref h.lv), ("past", .ref h.mo), ("pages", .ref h.pg), ("marked", .int h.marked), ("holders", .ref h.hd)]
def Hh.o (h : Hh) (D : Ad) (dx : Addr) : HO := .ins D.c_House dx h.fs
def Hh.L (h : Hh) : List Cell := (h.q, .lst (rfZ h.zs)) :: (h.bk, .dK (dkM h.ls)) :: (h.pg, .lst (h.pgs.map fun t => V.ref t.1)) :: (h.hd, .dK h.hs) :: h.ls.map ltC
/-- the house at a, in the heap -/
structure Ho (D : Ad) (B H : Hp) (L : List Cell) (a : Addr) (h : Hh) : Prop where
  sw : ∃ dx, SlW D B H ((a, h.o D dx) :: (h.L ++ L)) h.sl h.s (h.kv.length : Nat)
  si : SlI h.s h.kv
  lb : LvB D B h.lv h.q h.zs
  li : LInv (lsZ h.zs)
  lp : (lsZ h.zs).flatten.Perm (ksP h.kv)
  mb : MkB D B h.mo h.bk h.ls
  pb : ∀ t ∈ h.pgs, B t.1 = some (.tup t.2.vs)
theorem mk_leaves {D : Ad} {B H : Hp} {L : List Cell} {Q : VK} {E : XK} (w : W B L H) (q : ∀ (al q : Addr) (B' H' : Hp), Same B B' → LvB D B' al q [] → W B' ((q, .lst []) :: L) H' → Q (.ref al) H') : rMk D.c_Leaves (sp_Leaves_init K D) [] E Q [] H := by
  intro x dx hx hdx hne
  have w1 := w.newB hdx (.own x)
  have w2 := w1.newL (p := x) (by rw [upd_ne (Ne.symm hne)]; exact hx) (.ins D.c_Leaves dx [])
  exact ⟨_, rfl, x, dx, _, L, rfl, w2, fun qq B' H' s1 lb w' => ⟨rfl, q x qq B' H' (same_trans (same_new (w.freeB hdx)) s1) lb w'⟩⟩
theorem mk_makes {D : Ad} {B H : Hp} {L : List Cell} {Q : VK} {E : XK} (w : W B L H) (q : ∀ (al bk : Addr) (B' H' : Hp), Same B B' → MkB D B' al bk [] → W B' ((bk, .dK []) :: L) H' → Q (.ref al) H') : rMk D.c_Makes (sp_Makes_init K D) [] E Q [] H := by
  intro x dx hx hdx hne
  have w1 := w.newB hdx (.own x)
  have w2 := w1.newL (p := x) (by rw [upd_ne (Ne.symm hne)]; exact hx) (.ins D.c_Makes dx [])
  exact ⟨_, rfl, x, dx, _, L, rfl, w2, fun qq B' H' s1 lb w' => ⟨rfl, q x qq B' H' (same_trans (same_new (w.freeB hdx)) s1) lb w'⟩⟩
/-- a new house -/
def Hh.new (sl : Addr) (s : Sl) (lv q mo bk pg hd : Addr) : Hh := ⟨0, 0, 0, sl, s, [], lv, q, [], mo, bk, [], pg, [], hd, []⟩
def sp_House_init (K : PySem.W.Frag) (D : Ad) : Sp := Sp1 fun x H Q _ => ∃ (a dx : Addr) (B : Hp) (L : List Cell), x = .ref a ∧ W B ((a, .ins D.c_House dx []) :: L) H ∧
  ∀ (sl : Addr) (s : Sl) (lv q mo bk pg hd : Addr) (B' H' : Hp), Same B B' → s.st = (4, none, 0) → Ho D B' H' L a (Hh.new sl s lv q mo bk pg hd) → Q .non H'
theorem ok_House_init {D : Ad} (T : Txt K mg D) : FnOk P w K mg base (L2.CX P w) 5 D.a_House_init D.d_House_init ["self"] (sp_House_init K D) := by
  refine T.F_House_init.okX sc_House_init (fun vs H Q E h => sp1_len h) (fun cdv A outer s H vs Q E hr h => ⟨_, (pss_cons (ps_fld (pv 0) pe_int rfl)
    (pss_cons (ps_fld (pv 0) pe_int rfl)
    (pss_cons (ps_fld (pv 0) (pe_make0 T.mk_Slots (ok_Slots_init T) (hr.mono (by decide)) rfl T.g_Slots T.b_Slots_init .nil pX) rfl)
    (pss_cons (ps_fld (pv 0) (pe_make0 T.mk_Leaves (ok_Leaves_init T) (hr.mono (by decide)) rfl T.g_Leaves T.b_Leaves_init .nil pX) rfl)
    (pss_cons (ps_fld (pv 0) (pe_make0 T.mk_Makes (ok_Makes_init T) (hr.mono (by decide)) rfl T.g_Makes T.b_Makes_init .nil pX) rfl)
    (pss_cons (ps_fld (pv 0) (pe_lst pa_nil) rfl)
    (pss_cons (ps_fld (pv 0) pe_int rfl)
    (pss_one (ps_fld (pv 0) pe_dnewK rfl))))))))), ?_⟩)
  obtain ⟨x0, rfl, h⟩ := h
  rw [show L2.start n_House_init [x0] = [some x0] from rfl]
  try dsimp only [cxOf]
  obtain ⟨a, dx, B, L, rfl, w, k⟩ := h
  wtm_at "go"
  refine r_sfld (w.get (List.mem_cons_self ..)) T.cl_House T.na_House_now (by simp) ?_
  have w := W.put0 w (.ins D.c_House dx (putF "now" (.int 0) []))
  wtm_at "go"
  refine r_sfld (w.get (List.mem_cons_self ..)) T.cl_House T.na_House_floor (plT 1 (plS (Nat.le_refl 0)) (by decide)) ?_
  have w := W.put0 w (.ins D.c_House dx (putF "floor" (.int 0) (putF "now" (.int 0) [])))
  wtm_at "go"
  refine mk_slots w fun sl s B1 H1 s1 st0 si sw => ?_
  wtm_at "go"
  refine r_sfld sw.cell T.cl_House T.na_House_slots (plT 2 (plS (plS (Nat.le_refl 0))) (by decide)) ?_
  have sw := sw.cellPut (.ins D.c_House dx (putF "slots" (.ref sl) (putF "floor" (.int 0) (putF "now" (.int 0) []))))
  obtain ⟨A, w, back⟩ := sw.at2
  wtm_at "go"
  refine mk_leaves w fun lv q B2 H2 s2 lb w => ?_
  have sw := (back B2 H2 [(q, .lst [])] s2 w).cellPerm (List.Perm.swap _ _ _)
  clear back w
  wtm_at "go"
  refine r_sfld sw.cell T.cl_House T.na_House_leaves (plT 3 (plS (plS (plS (Nat.le_refl 0)))) (by decide)) ?_
  have sw := sw.cellPut (.ins D.c_House dx (putF "leaves" (.ref lv) (putF "slots" (.ref sl) (putF "floor" (.int 0) (putF "now" (.int 0) [])))))
  obtain ⟨A, w, back⟩ := sw.at2
  wtm_at "go"
  refine mk_makes w fun mo bk B3 H3 s3 mb w => ?_
  have sw := (back B3 H3 [(bk, .dK [])] s3 w).cellPerm (List.Perm.swap _ _ _)
  clear back w
  wtm_at "go"
  refine r_sfld sw.cell T.cl_House T.na_House_past (plT 4 (plS (plS (plS (plS (Nat.le_refl 0))))) (by decide)) ?_
  have sw := sw.cellPut (.ins D.c_House dx (putF "past" (.ref mo) (putF "leaves" (.ref lv) (putF "slots" (.ref sl) (putF "floor" (.int 0) (putF "now" (.int 0) []))))))
  obtain ⟨A, w, back⟩ := sw.at2
  wtm_at "go"
  refine o_lst w (szl (by simp)) fun pg H4 hpg w => ?_
  have sw := (back B3 H4 [(pg, .lst [])] (same_refl _) w).cellPerm (List.Perm.swap _ _ _)
  clear back w
  wtm_at "go"
  refine r_sfld sw.cell T.cl_House T.na_House_pages (plT 5 (plS (plS (plS (plS (plS (Nat.le_refl 0)))))) (by decide)) ?_
  have sw := sw.cellPut (.ins D.c_House dx (putF "pages" (.ref pg) (putF "past" (.ref mo) (putF "leaves" (.ref lv) (putF "slots" (.ref sl) (putF "floor" (.int 0) (putF "now" (.int 0) [])))))))
  wtm_at "go"
  refine r_sfld sw.cell T.cl_House T.na_House_marked (plT 6 (plS (plS (plS (plS (plS (plS (Nat.le_refl 0))))))) (by decide)) ?_
  have sw := sw.cellPut (.ins D.c_House dx (putF "marked" (.int 0) (putF "pages" (.ref pg) (putF "past" (.ref mo) (putF "leaves" (.ref lv) (putF "slots" (.ref sl) (putF "floor" (.int 0) (putF "now" (.int 0) []))))))))
  wtm_at "go"
  intro hd hhd
  have sw := (sw.cellNew hhd (.dK [])).cellPerm (List.Perm.swap _ _ _)
  generalize upd _ hd (.dK []) = H5 at *
  wtm_at "go"
  refine r_sfld sw.cell T.cl_House T.na_House_holders (plT 7 (plS (plS (plS (plS (plS (plS (plS (Nat.le_refl 0)))))))) (by decide)) ?_
  have sw := sw.cellPut (.ins D.c_House dx (putF "holders" (.ref hd) (putF "marked" (.int 0) (putF "pages" (.ref pg) (putF "past" (.ref mo) (putF "leaves" (.ref lv) (putF "slots" (.ref sl) (putF "floor" (.int 0) (putF "now" (.int 0) [])))))))))
  wtm_at "go"
  refine k sl s lv q mo bk pg hd B3 _ (same_trans s1 (same_trans s2 s3)) st0 ⟨⟨dx, sw.cellPerm ?_⟩, si, (lb.mono s3), LInv.nil, List.Perm.refl _, mb, nofun⟩
  refine List.Perm.cons _ ?_
  show ((hd, HO.dK []) :: (pg, HO.lst []) :: (bk, HO.dK []) :: (q, HO.lst []) :: L).Perm ((q, HO.lst []) :: (bk, HO.dK []) :: (pg, HO.lst []) :: (hd, HO.dK []) :: L)
  exact (List.reverse_perm [(q, HO.lst []), (bk, HO.dK []), (pg, HO.lst []), (hd, HO.dK [])]).append_right L

theorem mk_house {D : Ad} {B H : Hp} {L : List Cell} {Q : VK} {E : XK} (w : W B L H) (q : ∀ (a sl : Addr) (s : Sl) (lv q mo bk pg hd : Addr) (B' H' : Hp), Same B B' → s.st = (4, none, 0) → Ho D B' H' L a (Hh.new sl s lv q mo bk pg hd) → Q (.ref a) H') : rMk D.c_House (sp_House_init K D) [] E Q [] H := by
  intro x dx hx hdx hne
  have w1 := w.newB hdx (.own x)
  have w2 := w1.newL (p := x) (by rw [upd_ne (Ne.symm hne)]; exact hx) (.ins D.c_House dx [])
  exact ⟨_, rfl, x, dx, _, L, rfl, w2, fun sl s lv qq mo bk pg hd B' H' s1 st0 ho => ⟨rfl, q x sl s lv qq mo bk pg hd B' H' (same_trans (same_new (w.freeB hdx)) s1) st0 ho⟩⟩
section
variable {D : Ad} {B H : Hp} {L : List Cell} {al a p : Addr} {x : Sl} {m : Int} {A R X : List Cell} {o : HO} {h : Hh}
theorem SlW.setAt (h : SlW D B H (A ++ (p, o) :: R) al x m) (o' : HO) : SlW D B (upd H p o') (A ++ (p, o') :: R) al x m := ((h.cellPerm List.perm_middle).cellPut o').cellPerm List.perm_middle.symm
theorem SlW.out (h : SlW D B H (X ++ L) al x m) : ∃ R, W B (X ++ R) H ∧ ∀ B' H' X', Same B B' → W B' (X' ++ R) H' → SlW D B' H' (X' ++ L) al x m := by
  obtain ⟨dx, w⟩ := h.w
  exact ⟨_, w.perm (List.perm_append_comm_assoc _ _ _), fun B' H' X' s w' => ⟨h.ob.mono s, fun b e => (h.yb b e).mono s, dx, w'.perm (List.perm_append_comm_assoc _ _ _)⟩⟩
theorem permH {a q b p d : Cell} : (a :: q :: b :: p :: d :: (X ++ L)).Perm (b :: (X ++ (a :: q :: p :: d :: L))) :=
  (List.perm_middle (l₁ := [a, q])).trans (List.Perm.cons _ (List.perm_append_comm_assoc [a, q, p, d] X L))
/-- how many of each there are -/
def Hh.le (h : Hh) (n : Nat) : Prop := h.pgs.length ≤ n ∧ h.ls.length ≤ n ∧ (∀ k, (mkL h.ls k).length ≤ n) ∧ h.hs.length ≤ n
/-- a row more -/
def Hh.row (h : Hh) (t : Addr) (r : Dr) : Hh := { h with pgs := h.pgs ++ [(t, r)] }
def Hh.deed (h : Hh) (t : Addr) (r : Dr) (ls : List Lt) : Hh := { h with now := h.now + 1, pgs := h.pgs ++ [(t, r)], ls := ls }
theorem Ho.mv (ho : Ho D B H L a h) : ∃ A, W B A H ∧ ∀ B' H', Same B B' → W B' A H' → Ho D B' H' L a h := by
  obtain ⟨⟨dx, sw⟩, si, lb, li, lp, mb, pb⟩ := ho
  obtain ⟨A, w, back⟩ := sw.at_
  exact ⟨A, w, fun B' H' s w => ⟨⟨dx, back _ _ s w⟩, si, lb.mono s, li, lp, mb.mono s, fun t ht => s _ _ (pb t ht)⟩⟩
end
def sp_House_done (K : PySem.W.Frag) (D : Ad) : Sp := Sp4 fun x y z u H Q _ => ∃ (a t : Addr) (h : Hh) (r : Dr) (key : Int) (v : Option Int) (n : Nat) (B : Hp) (L : List Cell), x = .ref a ∧ y = .ref t ∧ z = .int key ∧ u = oV v ∧ B t = some (.tup r.vs) ∧ Ho D B H L a h ∧ h.le n ∧ n < 9000 ∧
  ∀ (B' H' : Hp) (ls : List Lt), Same B B' → Ho D B' H' L a (h.deed t r ls) → mkM ls = addF (mkM h.ls) key (h.now + 1, v) → (∀ k, k ∈ ksM ls ↔ k = key ∨ k ∈ ksM h.ls) → (h.deed t r ls).le (n + 1) → Q (.int (h.now + 1)) H'
theorem ok_House_done {D : Ad} (T : Txt K mg D) : FnOk P w K mg base (L2.CX P w) 2 D.a_House_done D.d_House_done ["self", "row", "key", "value"] (sp_House_done K D) := by
  refine T.F_House_done.okX sc_House_done (fun vs H Q E h => sp4_len h) (fun cdv A outer s H vs Q E hr h => ⟨_, (pss_cons (ps_fld (pv 0) (pe_op op_add (pe_fld (pv 0) rfl) pe_int) rfl)
    (pss_cons (ps_expr (pe_bm PySem.F.plainAttrs_list PySem.F.slot_list_append PySem.F.type_list_append mt_append (pe_fld (pv 0) rfl) (pa_cons (pv 1) pa_nil)))
    (pss_cons (ps_expr (pe_meth (pe_fld (pv 0) rfl) T.cl_Makes T.me_Makes_add (ok_Makes_add T) (hr.mono (by decide)) T.b_Makes_add .nil pX (pa_cons (pv 2) (pa_cons (pe_fld (pv 0) rfl) (pa_cons (pv 3) pa_nil)))))
    (pss_one (ps_ret (pe_fld (pv 0) rfl)))))), ?_⟩)
  obtain ⟨x0, x1, x2, x3, rfl, h⟩ := h
  rw [show L2.start n_House_done [x0, x1, x2, x3] = [some x0, some x1, some x2, some x3] from rfl]
  try dsimp only [cxOf]
  obtain ⟨a, t, h, r, key, v, n, B, L, rfl, rfl, rfl, rfl, ht, ⟨⟨dx, sw⟩, si, lb, li, lp, mb, pb⟩, ⟨l1, l2, l3, l4⟩, hn, k⟩ := h
  wtm_at "go"
  refine r_fld sw.cell T.cl_House T.na_House_now rfl ?_
  wtm_at "go"
  refine r_sfld sw.cell T.cl_House T.na_House_now (show 8 < 1000 from by decide) ?_
  rw [show putF "now" (.int (h.now + 1)) h.fs = ({ h with now := h.now + 1 } : Hh).fs from rfl]
  have sw := sw.cellPut (({ h with now := h.now + 1 } : Hh).o D dx)
  wtm_at "go"
  refine r_fld sw.cell T.cl_House T.na_House_pages rfl ?_
  have hpg := sw.get (p := h.pg) (o := .lst (h.pgs.map fun t => V.ref t.1)) (List.mem_cons_of_mem _ (List.mem_cons_of_mem _ (List.mem_cons_of_mem _ (List.mem_cons_self ..))))
  wtm_at "go"
  refine r_bmL (SqL.of hpg) ?_
  wtm_at "go"
  refine r_append hpg (szlt (by rw [List.length_map]; omega)) ?_
  have sw := SlW.setAt (A := [(a, ({ h with now := h.now + 1 } : Hh).o D dx), (h.q, .lst (rfZ h.zs)), (h.bk, .dK (dkM h.ls))]) sw (.lst ((h.pgs.map fun t => V.ref t.1) ++ [.ref t]))
  have e1 : (h.pgs.map fun t => V.ref t.1) ++ [V.ref t] = ((h.pgs ++ [(t, r)]).map fun t => V.ref t.1) := by rw [List.map_append]; rfl
  have hoa := sw.cell
  wtm_at "go"
  refine r_fld hoa T.cl_House T.na_House_past rfl ?_
  obtain ⟨dxm, hm⟩ := mb.obj
  obtain ⟨R, w, back⟩ := SlW.out (X := (h.bk, .dK (dkM h.ls)) :: h.ls.map ltC) (sw.cellPerm permH)
  wtm_at "go"
  refine r_meth (w.rd hm) rfl ?_
  wtm_at "go"
  refine r_fld hoa T.cl_House T.na_House_now rfl ?_
  wtm_at "go"
  refine ⟨_, _, _, _, rfl, h.mo, h.bk, h.ls, key, h.now + 1, v, B, R, rfl, rfl, rfl, rfl, mb, w, by omega, fun k => Nat.lt_of_le_of_lt (l3 k) (by omega), fun B3 H3 ls s3 mb w hmk hks hll => ?_⟩
  have sw := (back B3 H3 ((h.bk, .dK (dkM ls)) :: ls.map ltC) s3 w).cellPerm permH.symm
  rw [e1] at sw
  wtm_at "go"
  refine r_fld sw.cell T.cl_House T.na_House_now rfl ?_
  refine k B3 H3 ls s3 ⟨⟨dx, sw⟩, si, lb.mono s3, li, lp, mb, fun u hu => ?_⟩ hmk hks ⟨?_, by show ls.length ≤ _; omega, fun k' => ?_, by show h.hs.length ≤ _; omega⟩
  · rcases List.mem_append.mp hu with hu | hu
    · exact s3 _ _ (pb u hu)
    · rw [List.mem_singleton.mp hu]
      exact s3 _ _ ht
  · show (h.pgs ++ [(t, r)]).length ≤ _
    rw [List.length_append, List.length_singleton]
    omega
  · show (mkL ls k').length ≤ _
    have e2 : (mkL ls k').length = (mkM ls k').length := (List.length_map ..).symm
    have e3 : (mkM h.ls k').length = (mkL h.ls k').length := List.length_map ..
    have e4 : (mkM h.ls key).length = (mkL h.ls key).length := List.length_map ..
    have h1 := l3 k'
    have h2 := l3 key
    rw [e2, hmk]
    unfold addF
    split
    · rw [List.length_append, List.length_singleton]
      omega
    · omega

def sp_House_put (K : PySem.W.Frag) (D : Ad) : Sp := Sp3 fun x y z H Q _ => ∃ (a : Addr) (h : Hh) (key v : Int) (n : Nat) (B : Hp) (L : List Cell), x = .ref a ∧ y = .int key ∧ z = .int v ∧ 0 ≤ key ∧ Ho D B H L a h ∧ h.le n ∧ n < 9000 ∧ h.kv.length < 900 ∧
  ∀ (B' H' : Hp) (h' : Hh), Same B B' → Ho D B' H' L a h' → h'.kv = putP h.kv key v → h'.now = h.now + 1 → h'.floor = h.floor → h'.marked = h.marked → h'.hs = h.hs → h'.sl = h.sl → h'.s.st = turnS (putP h.kv key v).length h.s.st → mkM h'.ls = addF (mkM h.ls) key (h.now + 1, some v) → (∀ k, k ∈ ksM h'.ls ↔ k = key ∨ k ∈ ksM h.ls) → h'.pgs.map (·.2) = h.pgs.map (·.2) ++ [.put key v] → h'.le (n + 1) → Q (.int (h.now + 1)) H'
theorem ok_House_put {D : Ad} (T : Txt K mg D) : FnOk P w K mg base (L2.CX P w) 6 D.a_House_put D.d_House_put ["self", "key", "value"] (sp_House_put K D) := by
  refine T.F_House_put.okX sc_House_put (fun vs H Q E h => sp3_len h) (fun cdv A outer s H vs Q E hr h => ⟨_, (pss_cons (ps_if (pt_not (pt_val (pe_meth (pe_fld (pv 0) rfl) T.cl_Slots T.me_Slots_has (ok_Slots_has T) (hr.mono (by decide)) T.b_Slots_has .nil pX (pa_cons (pv 1) pa_nil))))
      (pss_one (ps_expr (pe_meth (pe_fld (pv 0) rfl) T.cl_Leaves T.me_Leaves_add (ok_Leaves_add T) (hr.mono (by decide)) T.b_Leaves_add .nil pX (pa_cons (pv 1) pa_nil))))
      pss_nil)
    (pss_cons (ps_expr (pe_meth (pe_fld (pv 0) rfl) T.cl_Slots T.me_Slots_put (ok_Slots_put T) (hr.mono (by decide)) T.b_Slots_put .nil pX (pa_cons (pv 1) (pa_cons (pv 2) pa_nil))))
    (pss_one (ps_ret (pe_meth (pv 0) T.cl_House T.me_House_done (ok_House_done T) (hr.mono (by decide)) T.b_House_done .nil pX (pa_cons (pe_tup (pa_cons pe_str (pa_cons (pv 1) (pa_cons (pv 2) pa_nil)))) (pa_cons (pv 1) (pa_cons (pv 2) pa_nil)))))))), ?_⟩)
  obtain ⟨x0, x1, x2, rfl, h⟩ := h
  rw [show L2.start n_House_put [x0, x1, x2] = [some x0, some x1, some x2] from rfl]
  try dsimp only [cxOf]
  obtain ⟨a, h, key, v, n, B, L, rfl, rfl, rfl, h0, ⟨⟨dx, sw⟩, si, lb, li, lp, mb, pb⟩, hle, hn, hkl, k⟩ := h
  wtm_at "g0"
  refine g_ifJ (fun σ H' => ∃ (B' : Hp) (zs : Zs), σ = [some (.ref a), some (.int key), some (.int v)] ∧ Same B B' ∧ SlW D B' H' ((a, h.o D dx) :: (({ h with zs := zs } : Hh).L ++ L)) h.sl h.s (h.kv.length : Nat) ∧ LvB D B' h.lv h.q zs ∧ LInv (lsZ zs) ∧ (lsZ zs).flatten.Perm (ksP (putP h.kv key v))) ?_ ?_
  rotate_left
  · intro N hN
    wtm_at "go"
    refine r_fld sw.cell T.cl_House T.na_House_slots rfl ?_
    obtain ⟨dxs, hos⟩ := sw.ob_
    wtm_at "go"
    refine r_meth hos rfl ?_
    wtm_at "go"
    refine ⟨_, _, rfl, h.sl, h.s, _, h.kv, key, B, _, rfl, rfl, h0, sw, si, ?_⟩
    by_cases c : key ∈ ksP h.kv
    · wtm_at "go"
      exact hN _ _ ⟨B, h.zs, rfl, same_refl _, sw, lb, li, by rw [ksP_put_old c]; exact lp⟩
    · wtm_at "go"
      refine r_fld sw.cell T.cl_House T.na_House_leaves rfl ?_
      obtain ⟨dxl, hol⟩ := lb.obj
      obtain ⟨R, w, back⟩ := SlW.out (X := [(h.q, .lst (rfZ h.zs))]) (sw.cellPerm (List.Perm.swap _ _ _))
      have hno : key ∉ (lsZ h.zs).flatten := fun hm => c (lp.mem_iff.mp hm)
      have hzl : h.zs.length < 1000 := by
        have h1 := fl_ge li.ne
        have h2 := lp.length_eq
        rw [List.length_map] at h1
        rw [ksP_len] at h2
        omega
      wtm_at "go"
      refine r_meth (w.rd hol) rfl ?_
      wtm_at "go"
      refine ⟨_, _, rfl, h.lv, h.q, h.zs, key, B, R, rfl, rfl, Lv.mk' lb w li, by rw [hsL_eq li]; exact decide_eq_false hno, by omega, fun B5 H5 zs5 s5 b5 w r => ?_⟩
      obtain ⟨h1, h2⟩ := add_law li hno r
      have sw := (back B5 H5 [(h.q, .lst (rfZ zs5))] s5 w).cellPerm (List.Perm.swap _ _ _)
      wtm_at "go"
      refine hN _ _ ⟨B5, zs5, rfl, s5, sw, b5, h1, ?_⟩
      rw [ksP_put_new c]
      exact h2.trans ((lp.cons key).trans (List.perm_append_singleton _ _).symm)
  rintro σ H1 ⟨B1, zs, rfl, s1, sw, lb, li, lp⟩
  wtm_at "go"
  refine r_fld sw.cell T.cl_House T.na_House_slots rfl ?_
  obtain ⟨dxs, hos⟩ := sw.ob_
  wtm_at "go"
  refine r_meth hos rfl ?_
  wtm_at "go"
  refine ⟨_, _, _, rfl, h.sl, h.s, h.kv, key, v, B1, _, rfl, rfl, rfl, h0, by omega, sw, si, fun B2 H2 s' s2 sw si est => ?_⟩
  wtm_at "go"
  refine r_meth sw.cell rfl ?_
  obtain ⟨A, w, back⟩ := sw.at_
  wtm_at "go"
  refine d_tup w (szl (by simp)) fun pt B3 H3 hpt s3 i3 w => ?_
  have sw := back _ _ s3 w
  have s23 := same_trans s2 s3
  have s123 := same_trans s1 s23
  have ho : Ho D B3 H3 L a ({ h with s := s', kv := putP h.kv key v, zs := zs } : Hh) := ⟨⟨dx, sw⟩, si, lb.mono s23, li, lp, mb.mono s123, fun t ht => s123 _ _ (pb t ht)⟩
  wtm_at "go"
  refine ⟨_, _, _, _, rfl, a, pt, ({ h with s := s', kv := putP h.kv key v, zs := zs } : Hh), .put key v, key, some v, n, B3, L, rfl, rfl, rfl, rfl, i3, ho, hle, hn, fun B4 H4 ls s4 ho hmk hks hle => ?_⟩
  exact k B4 H4 _ (same_trans s123 s4) ho rfl rfl rfl rfl rfl rfl est hmk hks (by show (h.pgs ++ [(pt, Dr.put key v)]).map (·.2) = _; rw [List.map_append]; rfl) hle

def sp_House_drop (K : PySem.W.Frag) (D : Ad) : Sp := Sp2 fun x y H Q E => ∃ (a : Addr) (h : Hh) (key : Int) (n : Nat) (B : Hp) (L : List Cell), x = .ref a ∧ y = .int key ∧ 0 ≤ key ∧ Ho D B H L a h ∧ h.le n ∧ n < 9000 ∧ h.kv.length < 900 ∧
  ((key ∈ ksP h.kv ∧ ∀ (B' H' : Hp) (h' : Hh), Same B B' → Ho D B' H' L a h' → h'.kv = delP h.kv key → h'.now = h.now + 1 → h'.floor = h.floor → h'.marked = h.marked → h'.hs = h.hs → h'.sl = h.sl → h'.s.st = turnS (delP h.kv key).length h.s.st → mkM h'.ls = addF (mkM h.ls) key (h.now + 1, none) → (∀ k, k ∈ ksM h'.ls ↔ k = key ∨ k ∈ ksM h.ls) → h'.pgs.map (·.2) = h.pgs.map (·.2) ++ [.drop key] → h'.le (n + 1) → Q (.int (h.now + 1)) H') ∨
  (rz_Slots_sure ∧ key ∉ ksP h.kv ∧ ∀ d B' H', Same B B' → B' d = some (.xd [("key", .int key)]) → Ho D B' H' L a h → E (.ref (cNK D)) (some d) H'))
theorem ok_House_drop {D : Ad} (T : Txt K mg D) : FnOk P w K mg base (L2.CX P w) 7 D.a_House_drop D.d_House_drop ["self", "key"] (sp_House_drop K D) := by
  refine T.F_House_drop.okX sc_House_drop (fun vs H Q E h => sp2_len h) (fun cdv A outer s H vs Q E hr h => ⟨_, (pss_cons (ps_expr (pe_meth (pe_fld (pv 0) rfl) T.cl_Slots T.me_Slots_drop (ok_Slots_drop T) (hr.mono (by decide)) T.b_Slots_drop .nil pX (pa_cons (pv 1) pa_nil)))
    (pss_cons (ps_expr (pe_meth (pe_fld (pv 0) rfl) T.cl_Leaves T.me_Leaves_discard (ok_Leaves_discard T) (hr.mono (by decide)) T.b_Leaves_discard .nil pX (pa_cons (pv 1) pa_nil)))
    (pss_one (ps_ret (pe_meth (pv 0) T.cl_House T.me_House_done (ok_House_done T) (hr.mono (by decide)) T.b_House_done .nil pX (pa_cons (pe_tup (pa_cons pe_str (pa_cons (pv 1) pa_nil))) (pa_cons (pv 1) (pa_cons pe_non pa_nil)))))))), ?_⟩)
  obtain ⟨x0, x1, rfl, h⟩ := h
  rw [show L2.start n_House_drop [x0, x1] = [some x0, some x1] from rfl]
  try dsimp only [cxOf]
  obtain ⟨a, h, key, n, B, L, rfl, rfl, h0, ⟨⟨dx, sw⟩, si, lb, li, lp, mb, pb⟩, hle, hn, hkl, k⟩ := h
  wtm_at "go"
  refine r_fld sw.cell T.cl_House T.na_House_slots rfl ?_
  obtain ⟨dxs, hos⟩ := sw.ob_
  wtm_at "go"
  refine r_meth hos rfl ?_
  wtm_at "go"
  refine ⟨_, _, rfl, h.sl, h.s, h.kv, key, B, _, rfl, rfl, h0, by omega, sw, si, ?_⟩
  rcases k with ⟨c, k⟩ | ⟨hz, c, k⟩
  rotate_left
  · exact .inr ⟨hz, c, fun d B' H' s i sw => k d B' H' s i ⟨⟨dx, sw⟩, si, lb.mono s, li, lp, mb.mono s, fun t ht => s _ _ (pb t ht)⟩⟩
  refine .inl ⟨c, fun B1 H1 s' s1 sw si est => ?_⟩
  wtm_at "go"
  refine r_fld sw.cell T.cl_House T.na_House_leaves rfl ?_
  have lb := lb.mono s1
  obtain ⟨dxl, hol⟩ := lb.obj
  obtain ⟨R, w, back⟩ := SlW.out (X := [(h.q, .lst (rfZ h.zs))]) (sw.cellPerm (List.Perm.swap _ _ _))
  have hin : key ∈ (lsZ h.zs).flatten := lp.mem_iff.mpr c
  wtm_at "go"
  refine r_meth (w.rd hol) rfl ?_
  wtm_at "go"
  refine ⟨_, _, rfl, h.lv, h.q, h.zs, key, B1, R, rfl, rfl, Lv.mk' lb w li, by rw [hsL_eq li]; exact decide_eq_true hin, fun B2 H2 zs s2 lb w r => ?_⟩
  obtain ⟨h1, h2⟩ := dis_law li hin
  have sw := (back B2 H2 [(h.q, .lst (rfZ zs))] s2 w).cellPerm (List.Perm.swap _ _ _)
  have lp2 : (lsZ zs).flatten.Perm (ksP (delP h.kv key)) := by
    rw [r, h2, ksP_del]
    have e : (ksP h.kv).filter (fun m => decide (m ≠ key)) = (ksP h.kv).filter fun m => !decide (m = key) := List.filter_congr fun m _ => by simp
    rw [e]
    exact lp.filter _
  wtm_at "go"
  refine r_meth sw.cell rfl ?_
  obtain ⟨A, w, back⟩ := sw.at_
  wtm_at "go"
  refine d_tup w (szl (by simp)) fun pt B3 H3 hpt s3 i3 w => ?_
  have sw := back _ _ s3 w
  have s123 := same_trans s1 (same_trans s2 s3)
  have ho : Ho D B3 H3 L a ({ h with s := s', kv := delP h.kv key, zs := zs } : Hh) := ⟨⟨dx, sw⟩, si, lb.mono s3, by rw [r]; exact h1, lp2, mb.mono s123, fun t ht => s123 _ _ (pb t ht)⟩
  wtm_at "go"
  refine ⟨_, _, _, _, rfl, a, pt, ({ h with s := s', kv := delP h.kv key, zs := zs } : Hh), .drop key, key, none, n, B3, L, rfl, rfl, rfl, rfl, i3, ho, hle, hn, fun B4 H4 ls s4 ho hmk hks hle => ?_⟩
  exact k B4 H4 _ (same_trans s123 s4) ho rfl rfl rfl rfl rfl rfl est hmk hks (by show (h.pgs ++ [(pt, Dr.drop key)]).map (·.2) = _; rw [List.map_append]; rfl) hle

def sp_House_lay_mark (K : PySem.W.Frag) (D : Ad) : Sp := Sp1 fun x H Q _ => ∃ (a : Addr) (h : Hh) (n : Nat) (B : Hp) (L : List Cell), x = .ref a ∧ Ho D B H L a h ∧ h.le n ∧ n < 9000 ∧
  ∀ (B' H' : Hp) (t : Addr), Same B B' → Ho D B' H' L a { h with marked := h.marked + 1, pgs := h.pgs ++ [(t, .mark (h.marked + 1))] } → ({ h with marked := h.marked + 1, pgs := h.pgs ++ [(t, .mark (h.marked + 1))] } : Hh).le (n + 1) → Q (.int (h.marked + 1)) H'
def sp_House_makes (K : PySem.W.Frag) (D : Ad) : Sp := Sp2 fun x y H Q _ => ∃ (a : Addr) (h : Hh) (key : Int) (n : Nat) (B : Hp) (L : List Cell), x = .ref a ∧ y = .int key ∧ Ho D B H L a h ∧ h.le n ∧ n < 9000 ∧
  ∀ (p : Addr) (B' H' : Hp), Same B B' → Ho D B' H' ((p, .lst (tsV (mkL h.ls key))) :: L) a h → Q (.ref p) H'
/-- what a deed leaves of the house -/
structure Aft (h h' : Hh) (tb : Kv) (key : Int) (v : Option Int) (r : Dr) : Prop where
  kv : h'.kv = tb
  now : h'.now = h.now + 1
  floor : h'.floor = h.floor
  marked : h'.marked = h.marked
  hs : h'.hs = h.hs
  sl : h'.sl = h.sl
  st : h'.s.st = turnS tb.length h.s.st
  made : mkM h'.ls = addF (mkM h.ls) key (h.now + 1, v)
  ks : ∀ k, k ∈ ksM h'.ls ↔ k = key ∨ k ∈ ksM h.ls
  pg : h'.pgs.map (·.2) = h.pgs.map (·.2) ++ [r]
theorem Ho.give {D : Ad} {B H : Hp} {L : List Cell} {a p : Addr} {o : HO} {h : Hh} (ho : Ho D B H ((p, o) :: L) a h) : ∃ B', Same B B' ∧ B' p = some o ∧ Ho D B' H L a h := by
  obtain ⟨⟨dx, sw⟩, si, lb, li, lp, mb, pb⟩ := ho
  obtain ⟨B', s, e, sw⟩ := (sw.cellPerm (List.perm_middle (l₁ := (a, h.o D dx) :: h.L))).cellGive
  exact ⟨B', s, e, ⟨dx, sw⟩, si, lb.mono s, li, lp, mb.mono s, fun t ht => s _ _ (pb t ht)⟩
theorem Ho.get {D : Ad} {B H : Hp} {L : List Cell} {a p : Addr} {o : HO} {h : Hh} (ho : Ho D B H L a h) (m : (p, o) ∈ L) : H p = some o := by
  obtain ⟨dx, sw⟩ := ho.sw
  exact sw.get (List.mem_cons_of_mem _ (List.mem_append_right _ m))
theorem Ho.out {D : Ad} {B H : Hp} {X L : List Cell} {a : Addr} {h : Hh} (ho : Ho D B H (X ++ L) a h) : ∃ R, W B (X ++ R) H ∧ ∀ B' H' X', Same B B' → W B' (X' ++ R) H' → Ho D B' H' (X' ++ L) a h := by
  obtain ⟨⟨dx, sw⟩, si, lb, li, lp, mb, pb⟩ := ho
  have pm : ∀ Y : List Cell, ((a, h.o D dx) :: (h.L ++ (Y ++ L))).Perm (Y ++ ((a, h.o D dx) :: (h.L ++ L))) := fun Y =>
    (List.Perm.cons _ (List.perm_append_comm_assoc _ _ _)).trans List.perm_middle.symm
  obtain ⟨R, w, back⟩ := SlW.out (sw.cellPerm (pm X))
  exact ⟨R, w, fun B' H' X' s w => ⟨⟨dx, (back B' H' X' s w).cellPerm (pm X').symm⟩, si, lb.mono s, li, lp, mb.mono s, fun t ht => s _ _ (pb t ht)⟩⟩

theorem putP_le (kv : Kv) (k v : Int) : (putP kv k v).length ≤ kv.length + 1 := by
  rw [← ksP_len, ← ksP_len kv]
  by_cases c : k ∈ ksP kv
  · rw [ksP_put_old c]; omega
  · rw [ksP_put_new c, List.length_append, List.length_singleton]; omega
theorem delP_le (kv : Kv) (k : Int) : (delP kv k).length ≤ kv.length := by
  rw [← ksP_len, ← ksP_len kv, ksP_del]
  exact List.length_filter_le _ _
def sp_House_get (K : PySem.W.Frag) (D : Ad) : Sp := Sp2 fun x y H Q E => ∃ (a : Addr) (h : Hh) (key : Int) (B : Hp) (L : List Cell), x = .ref a ∧ y = .int key ∧ 0 ≤ key ∧ Ho D B H L a h ∧
  ((∃ v, getP h.kv key = some v ∧ Q (.int v) H) ∨ (rz_Slots_sure ∧ key ∉ ksP h.kv ∧ ∀ d B' H', Same B B' → B' d = some (.xd [("key", .int key)]) → Ho D B' H' L a h → E (.ref (cNK D)) (some d) H'))
def sp_House_has (K : PySem.W.Frag) (D : Ad) : Sp := Sp2 fun x y H Q _ => ∃ (a : Addr) (h : Hh) (key : Int) (B : Hp) (L : List Cell), x = .ref a ∧ y = .int key ∧ 0 ≤ key ∧ Ho D B H L a h ∧ Q (.bl (decide (key ∈ ksP h.kv))) H
def sp_House_many (K : PySem.W.Frag) (D : Ad) : Sp := Sp1 fun x H Q _ => ∃ (a : Addr) (h : Hh) (B : Hp) (L : List Cell), x = .ref a ∧ Ho D B H L a h ∧ Q (.int (h.kv.length : Nat)) H
/-! the moments held: moment -> how often -/
def hoP (ht : Kv) (m : Int) : Kv := putP ht m ((getP ht m).getD 0 + 1)
def goP (ht : Kv) (m : Int) : Kv := if (getP ht m).getD 0 - 1 = 0 then delP ht m else putP ht m ((getP ht m).getD 0 - 1)
theorem del_put (kv : Kv) (k v : Int) : delP (putP kv k v) k = delP kv k := by
  by_cases c : k ∈ ksP kv
  · rw [putP_old c]
    unfold delP
    rw [List.filter_map]
    have e : (kv.filter ((fun p : Int × Int => decide (p.1 ≠ k)) ∘ fun p => if p.1 = k then (p.1, v) else p)) = kv.filter fun p => decide (p.1 ≠ k) := by
      refine List.filter_congr fun p _ => ?_
      show decide ((if p.1 = k then (p.1, v) else p).1 ≠ k) = decide (p.1 ≠ k)
      split <;> rfl
    rw [e]
    have e2 : ∀ p ∈ kv.filter (fun p => decide (p.1 ≠ k)), (if p.1 = k then (p.1, v) else p) = id p := fun p hp => by
      have := (List.mem_filter.mp hp).2
      rw [if_neg (of_decide_eq_true this)]
      rfl
    rw [List.map_congr_left e2, List.map_id]
  · rw [putP_new c, delP_app]
    unfold delP
    simp
theorem getP_put (kv : Kv) (k v : Int) : getP (putP kv k v) k = some v := by
  have h1 := dkP_get (putP kv k v) k
  by_cases c : k ∈ ksP kv
  · rw [putP_old c]
    unfold getP
    induction kv with
    | nil => exact absurd c (by simp [ksP])
    | cons p kv ih =>
      by_cases e : p.1 = k
      · rw [List.map_cons, if_pos e, List.find?_cons_of_pos (by simp [e])]
        rfl
      · rw [List.map_cons, if_neg e, List.find?_cons_of_neg (by simp [e])]
        have c2 : k ∈ ksP kv := by
          rcases List.mem_cons.mp c with h | h
          · exact absurd h.symm e
          · exact h
        exact ih (dkP_get _ _) c2
  · rw [putP_new c]
    unfold getP
    have hn : kv.find? (fun p => decide (p.1 = k)) = none := List.find?_eq_none.mpr fun p hp => by
      have : p.1 ≠ k := fun e => c (e ▸ List.mem_map.mpr ⟨p, hp, rfl⟩)
      simp [this]
    rw [List.find?_append, hn]
    simp
theorem hoP_le (ht : Kv) (m : Int) : (hoP ht m).length ≤ ht.length + 1 := putP_le ht m _
theorem goP_le (ht : Kv) (m : Int) (h : m ∈ ksP ht) : (goP ht m).length ≤ ht.length := by
  unfold goP
  split
  · exact delP_le ht m
  · rw [← ksP_len, ← ksP_len ht, ksP_put_old h]
    exact Nat.le_refl _
/-- the holders put anew -/
def Hh.hold (h : Hh) (ht : Kv) : Hh := { h with hs := dkP ht }
section
variable {D : Ad} {B H : Hp} {L : List Cell} {a : Addr} {h : Hh}
theorem Ho.hget (ho : Ho D B H L a h) : H h.hd = some (.dK h.hs) := by
  obtain ⟨dx, sw⟩ := ho.sw
  exact sw.get (List.mem_cons_of_mem _ (List.mem_cons_of_mem _ (List.mem_cons_of_mem _ (List.mem_cons_of_mem _ (List.mem_cons_self ..)))))
theorem Ho.obj (ho : Ho D B H L a h) : ∃ dx, H a = some (h.o D dx) := by
  obtain ⟨dx, sw⟩ := ho.sw
  exact ⟨dx, sw.cell⟩
theorem Ho.hput (ho : Ho D B H L a h) (ht : Kv) : Ho D B (upd H h.hd (.dK (dkP ht))) L a (h.hold ht) := by
  obtain ⟨⟨dx, sw⟩, si, lb, li, lp, mb, pb⟩ := ho
  have sw := SlW.setAt (A := [(a, h.o D dx), (h.q, .lst (rfZ h.zs)), (h.bk, .dK (dkM h.ls)), (h.pg, .lst (h.pgs.map fun t => V.ref t.1))]) (p := h.hd) sw (.dK (dkP ht))
  exact ⟨⟨dx, sw⟩, si, lb, li, lp, mb, pb⟩
end
def sp_House_hold (K : PySem.W.Frag) (D : Ad) : Sp := Sp1 fun x H Q _ => ∃ (a : Addr) (h : Hh) (ht : Kv) (B : Hp) (L : List Cell), x = .ref a ∧ Ho D B H L a h ∧ h.hs = dkP ht ∧ ht.length < 9000 ∧
  ∀ H', Ho D B H' L a (h.hold (hoP ht h.now)) → Q (.int h.now) H'
theorem ok_House_hold {D : Ad} (T : Txt K mg D) : FnOk P w K mg base (L2.CX P w) 1 D.a_House_hold D.d_House_hold ["self"] (sp_House_hold K D) := by
  refine T.F_House_hold.okX sc_House_hold (fun vs H Q E h => sp1_len h) (fun cdv A outer s H vs Q E hr h => ⟨_, (pss_cons (ps_dput (hu_of hr) (pe_fld (pv 0) rfl) (pe_fld (pv 0) rfl) (pe_op op_add (pe_dget2 (hu_of hr) (pe_fld (pv 0) rfl) (pe_fld (pv 0) rfl) pe_int ⟨rfl, by rfl, rfl, rfl⟩) pe_int) rfl)
    (pss_one (ps_ret (pe_fld (pv 0) rfl)))), ?_⟩)
  obtain ⟨x0, rfl, h⟩ := h
  rw [show L2.start n_House_hold [x0] = [some x0] from rfl]
  try dsimp only [cxOf]
  obtain ⟨a, h, ht, B, L, rfl, ho, hht, hl, k⟩ := h
  obtain ⟨dx, hoa⟩ := ho.obj
  have hhd := ho.hget
  rw [hht] at hhd
  wtm_at "go"
  refine g_dget2 ?_
  wtm_at "go"
  refine r_fld hoa T.cl_House T.na_House_holders rfl ?_
  refine r_dget2a (isD_of hhd) ?_
  wtm_at "go"
  refine r_fld hoa T.cl_House T.na_House_now rfl ?_
  wtm_at "go"
  refine r_dget2 hhd ?_
  rw [dkP_get]
  have e : ((getP ht h.now).map V.int).getD (.int 0) = .int ((getP ht h.now).getD 0) := by cases getP ht h.now <;> rfl
  rw [e]
  wtm_at "go"
  refine r_fld hoa T.cl_House T.na_House_holders rfl ?_
  wtm_at "go"
  refine r_fld hoa T.cl_House T.na_House_now rfl ?_
  refine r_dpu hhd (szlt (by rw [dkP_len]; omega)) ?_
  rw [dkP_put]
  have ho := ho.hput (hoP ht h.now)
  obtain ⟨dx, hoa⟩ := ho.obj
  wtm_at "go"
  refine r_fld hoa T.cl_House T.na_House_now rfl ?_
  exact k _ ho

def sp_House_held (K : PySem.W.Frag) (D : Ad) : Sp := Sp1 fun x H Q _ => ∃ (a : Addr) (h : Hh) (ht : Kv) (B : Hp) (L : List Cell), x = .ref a ∧ Ho D B H L a h ∧ h.hs = dkP ht ∧
  ∀ (p : Addr) (H' : Hp), Ho D B H' ((p, .lst ((srt (ksP ht)).map V.int)) :: L) a h → Q (.ref p) H'
theorem ok_House_held {D : Ad} (T : Txt K mg D) : FnOk P w K mg base (L2.CX P w) 1 D.a_House_held D.d_House_held ["self"] (sp_House_held K D) := by
  refine T.F_House_held.okX sc_House_held (fun vs H Q E h => sp1_len h) (fun cdv A outer s H vs Q E hr h => ⟨_, (pss_one (ps_ret (pe_callB (call_sortDI rfl) (by rfl) T.n_sorted bt_sorted (pa_cons (pe_fld (pv 0) rfl) pa_nil)))), ?_⟩)
  obtain ⟨x0, rfl, h⟩ := h
  rw [show L2.start n_House_held [x0] = [some x0] from rfl]
  try dsimp only [cxOf]
  obtain ⟨a, h, ht, B, L, rfl, ho, hht, k⟩ := h
  obtain ⟨dx, hoa⟩ := ho.obj
  have hhd := ho.hget
  rw [hht] at hhd
  wtm_at "go"
  refine r_fld hoa T.cl_House T.na_House_holders rfl ?_
  wtm_at "go"
  refine o_sortD hhd (dkP_ks ht) fun p hp => ?_
  obtain ⟨R, w, back⟩ := Ho.out (X := []) ho
  exact k p _ (back B _ [(p, .lst ((srt (ksP ht)).map V.int))] (same_refl _) (w.newL hp _))

def sp_House_let_go (K : PySem.W.Frag) (D : Ad) : Sp := Sp2 fun x y H Q E => ∃ (a : Addr) (h : Hh) (ht : Kv) (m : Int) (B : Hp) (L : List Cell), x = .ref a ∧ y = .int m ∧ Ho D B H L a h ∧ h.hs = dkP ht ∧ ht.length < 9000 ∧ ((m ∈ ksP ht ∧ ∀ H', Ho D B H' L a (h.hold (goP ht m)) → Q .non H') ∨ (rz_House_let_go ∧ m ∉ ksP ht ∧ ∀ d B' H', Same B B' → B' d = some (.xd [("moment", .int m)]) → Ho D B' H' L a h → E (.ref (cNM D)) (some d) H'))
theorem ok_House_let_go {D : Ad} (T : Txt K mg D) : FnOk P w K mg base (L2.CX P w) 1 D.a_House_let_go D.d_House_let_go ["self", "moment"] (sp_House_let_go K D) := by
  refine T.F_House_let_go.okX sc_House_let_go (fun vs H Q E h => sp2_len h) (fun cdv A outer s H vs Q E hr h => ⟨_, (pss_cons (ps_if (pt_cmp (pc_dnotin (hu_of hr) (pv 1) (pe_fld (pv 0) rfl)))
      (pss_one ps_dead)
      pss_nil)
    (pss_cons (ps_dput (hu_of hr) (pe_fld (pv 0) rfl) (pv 1) (pe_op op_sub (pe_dget (hu_of hr) (pe_fld (pv 0) rfl) (pv 1) (fun _ _ => rfl)) pe_int) rfl)
    (pss_one (ps_if (pt_cmpR op_eq (pe_dget (hu_of hr) (pe_fld (pv 0) rfl) (pv 1) (fun _ _ => rfl)) pe_int (nomark _))
      (pss_one (ps_expr (pe_dpop1 (pe_fld (pv 0) rfl) (pv 1) ⟨rfl, by rfl, rfl, rfl⟩)))
      pss_nil)))), ?_⟩)
  obtain ⟨x0, x1, rfl, h⟩ := h
  rw [show L2.start n_House_let_go [x0, x1] = [some x0, some x1] from rfl]
  try dsimp only [cxOf]
  obtain ⟨a, h, ht, m, B, L, rfl, rfl, ho, hht, hl, hq⟩ := h
  obtain ⟨dx, hoa⟩ := ho.obj
  have hhd := ho.hget
  rw [hht] at hhd
  wtm_at "go"
  refine r_fld hoa T.cl_House T.na_House_holders rfl ?_
  refine r_dni hhd ?_
  rw [(dkP_ks ht).isSome]
  rcases hq with ⟨hk, q⟩ | ⟨hz, hk, q⟩
  · obtain ⟨n, hn⟩ := getP_ex hk
    rw [decide_eq_true hk]
    wtm_at "go"
    refine r_fld hoa T.cl_House T.na_House_holders rfl ?_
    wtm_at "go"
    refine r_dge hhd (v := .int n) (by rw [dkP_get, hn]; rfl) ?_
    wtm_at "go"
    refine r_fld hoa T.cl_House T.na_House_holders rfl ?_
    wtm_at "go"
    refine r_dpu hhd (szlt (by rw [dkP_len]; omega)) ?_
    rw [dkP_put]
    have ho := ho.hput (putP ht m (n - 1))
    have hhd := ho.hget
    rw [show (h.hold (putP ht m (n - 1))).hs = dkP (putP ht m (n - 1)) from rfl, show (h.hold (putP ht m (n - 1))).hd = h.hd from rfl] at hhd
    obtain ⟨dx, hoa⟩ := ho.obj
    wtm_at "go"
    refine r_fld hoa T.cl_House T.na_House_holders rfl ?_
    wtm_at "go"
    refine r_dge hhd (v := .int (n - 1)) (by rw [dkP_get, getP_put]; rfl) ?_
    wtm_at "go"
    have eg : goP ht m = if n - 1 = 0 then delP ht m else putP ht m (n - 1) := by unfold goP; rw [hn]; rfl
    by_cases c : n - 1 = 0
    · rw [if_pos c] at eg
      wtm_at "go"
      refine g_dpop1 ?_
      wtm_at "go"
      refine r_fld hoa T.cl_House T.na_House_holders rfl ?_
      refine r_dpop1 (isD_of hhd) ?_
      wtm_at "go"
      refine r_dp1 hhd (v := .int (n - 1)) (by rw [dkP_get, getP_put]; rfl) ?_
      rw [dkP_del, del_put]
      have ho := ho.hput (delP ht m)
      wtm_at "go"
      refine q _ ?_
      rw [eg]
      exact ho
    · rw [if_neg c] at eg
      wtm_at "go"
      refine q _ ?_
      rw [eg]
      exact ho
  · exact hz.elim

/-- the least moment held, or now -/
def mnP (ht : Kv) (now : Int) : Int := ((srt (ksP ht)).head?).getD now
theorem mnP_nil {ht : Kv} {now : Int} (h : srt (ksP ht) = []) : mnP ht now = now := by unfold mnP; rw [h]; rfl
theorem mnP_of {ht : Kv} {now m : Int} (h1 : m ∈ srt (ksP ht)) (h2 : ∀ y ∈ srt (ksP ht), m ≤ y) : mnP ht now = m := by
  have so := srt_sorted (ksP ht)
  unfold mnP
  cases e : srt (ksP ht) with
  | nil => rw [e] at h1; cases h1
  | cons x r =>
    rw [e] at h1 h2 so
    have h3 := h2 x (List.mem_cons_self ..)
    show x = m
    rcases List.mem_cons.mp h1 with h | h
    · exact h.symm
    · have := (List.pairwise_cons.mp so).1 m h
      omega
def Hh.swept (h : Hh) (fl : Int) (ls : List Lt) : Hh := { h with floor := fl, ls := ls }
def sp_House_sweep (K : PySem.W.Frag) (D : Ad) : Sp := Sp1 fun x H Q _ => ∃ (a : Addr) (h : Hh) (ht : Kv) (n : Nat) (B : Hp) (L : List Cell), x = .ref a ∧ Ho D B H L a h ∧ h.hs = dkP ht ∧ h.le n ∧ n < 9000 ∧
  ∀ (B' H' : Hp) (ls : List Lt), Same B B' → Ho D B' H' L a (h.swept (mnP ht h.now) ls) → mkM ls = (fun k => neM (mnP ht h.now) (mkM h.ls k)) → ksM ls = (ksM h.ls).filter (fun k => decide (neM (mnP ht h.now) (mkM h.ls k) ≠ [])) → (h.swept (mnP ht h.now) ls).le n → Q (.int (totI h.ls - totI ls)) H'
theorem ok_House_sweep {D : Ad} (T : Txt K mg D) : FnOk P w K mg base (L2.CX P w) 3 D.a_House_sweep D.d_House_sweep ["self"] (sp_House_sweep K D) := by
  refine T.F_House_sweep.okX sc_House_sweep (fun vs H Q E h => sp1_len h) (fun cdv A outer s H vs Q E hr h => ⟨_, (pss_cons (ps_fld (pv 0) (pe_callBK (cr_minD rfl) (by rfl) T.n_min bt_min (pa_cons (pe_meth0 (pv 0) T.cl_House T.me_House_held (ok_House_held T) (hr.mono (by decide)) T.b_House_held .nil pX) pa_nil) (pk_cons (pe_fld (pv 0) rfl) pk_nil)) rfl)
    (pss_one (ps_ret (pe_meth (pe_fld (pv 0) rfl) T.cl_Makes T.me_Makes_thrown (ok_Makes_thrown T) (hr.mono (by decide)) T.b_Makes_thrown .nil pX (pa_cons (pe_fld (pv 0) rfl) pa_nil))))), ?_⟩)
  obtain ⟨x0, rfl, h⟩ := h
  rw [show L2.start n_House_sweep [x0] = [some x0] from rfl]
  try dsimp only [cxOf]
  obtain ⟨a, h, ht, n, B, L, rfl, ho, hht, hle, hn, k⟩ := h
  obtain ⟨dx, hoa⟩ := ho.obj
  wtm_at "go"
  try (with_reducible refine g_ckw ?_)
  try wtm_at "go"
  refine r_meth hoa rfl ?_
  wtm_at "go"
  refine ⟨_, rfl, a, h, ht, B, L, rfl, ho, hht, fun p H1 ho => ?_⟩
  obtain ⟨dx, hoa⟩ := ho.obj
  have hp : H1 p = some (.lst ((srt (ksP ht)).map V.int)) := ho.get (List.mem_cons_self ..)
  wtm_at "go"
  refine r_fld hoa T.cl_House T.na_House_now rfl ?_
  wtm_at "go"
  refine r_minDJ (fl := mnP ht h.now) (SqL.of hp) (fun e => mnP_nil e) (fun m h1 h2 => mnP_of h1 h2) ?_
  generalize mnP ht h.now = fl at *
  obtain ⟨R, w, back⟩ := Ho.out (X := [(p, .lst ((srt (ksP ht)).map V.int))]) ho
  have ho : Ho D B H1 L a h := back B H1 [] (same_refl _) w.drop1
  clear w back hp
  obtain ⟨⟨dx, sw⟩, si, lb, li, lp, mb, pb⟩ := ho
  wtm_at "go"
  refine r_sfld sw.cell T.cl_House T.na_House_floor (show 8 < 1000 from by decide) ?_
  rw [show putF "floor" (.int fl) h.fs = ({ h with floor := fl } : Hh).fs from rfl]
  have sw := sw.cellPut (({ h with floor := fl } : Hh).o D dx)
  obtain ⟨dxm, hm⟩ := mb.obj
  have hoa := sw.cell
  obtain ⟨l1, l2, l3, l4⟩ := hle
  obtain ⟨R, w, back⟩ := SlW.out (X := (h.bk, .dK (dkM h.ls)) :: h.ls.map ltC) (sw.cellPerm permH)
  wtm_at "go"
  refine r_fld hoa T.cl_House T.na_House_past rfl ?_
  wtm_at "go"
  refine r_meth (w.rd hm) rfl ?_
  wtm_at "go"
  refine r_fld hoa T.cl_House T.na_House_floor rfl ?_
  wtm_at "go"
  refine ⟨_, _, rfl, h.mo, h.bk, h.ls, fl, B, R, rfl, rfl, mb, w, by omega, fun k => Nat.lt_of_le_of_lt (l3 k) (by omega), fun B2 H2 ls s2 mb w e1 e2 e3 e4 => ?_⟩
  have sw := (back B2 H2 ((h.bk, .dK (dkM ls)) :: ls.map ltC) s2 w).cellPerm permH.symm
  exact k B2 H2 ls s2 ⟨⟨dx, sw⟩, si, lb.mono s2, li, lp, mb, fun u hu => s2 _ _ (pb u hu)⟩ e2 e1 ⟨l1, by show ls.length ≤ _; omega, fun k' => Nat.le_trans (e3 k') (l3 k'), l4⟩


/-! Makes: what was -/
def sp_Makes_value_at (K : PySem.W.Frag) (D : Ad) : Sp := Sp3 fun x y z H Q _ => ∃ (mo bk : Addr) (ls : List Lt) (key m : Int) (B : Hp) (A : List Cell), x = .ref mo ∧ y = .int key ∧ z = .int m ∧ MkB D B mo bk ls ∧ W B A H ∧ (bk, .dK (dkM ls)) ∈ A ∧ (∀ e ∈ ls, ltC e ∈ A) ∧ (∀ k, (mkL ls k).length < 10000) ∧
  ∀ B' H', Same B B' → W B' A H' → Q (oV (vaM (mkM ls key) m)) H'
theorem ok_Makes_value_at {D : Ad} (T : Txt K mg D) : FnOk P w K mg base (L2.CX P w) 1 D.a_Makes_value_at D.d_Makes_value_at ["self", "key", "moment"] (sp_Makes_value_at K D) := by
  refine T.F_Makes_value_at.okX sc_Makes_value_at (fun vs H Q E h => sp3_len h) (fun cdv A outer s H vs Q E hr h => ⟨_, (pss_cons (ps_set (i := 3) sc_Makes_value_at.nd rfl (Or.inl rfl) pe_non)
    (pss_cons (ps_for (passes_of rfl) rfl (pi_list (pe_dget2 (hu_of hr) (pe_fld (pv 0) rfl) (pv 1) (pe_lst pa_nil) ⟨rfl, by rfl, rfl, rfl⟩)) (pg_tup (by rfl) (pgs_cons (pg_name (i := 4) sc_Makes_value_at.nd rfl (Or.inl rfl)) (pgs_cons (pg_name (i := 5) sc_Makes_value_at.nd rfl (Or.inl rfl)) pgs_nil)))
      (pss_cons (ps_if (pt_cmpR op_gt (pv 4) (pv 2) (nomark _))
        (pss_one ps_break)
        pss_nil)
      (pss_one (ps_set (i := 3) sc_Makes_value_at.nd rfl (Or.inl rfl) (pv 5)))))
    (pss_one (ps_ret (pv 3))))), ?_⟩)
  obtain ⟨x0, x1, x2, rfl, h⟩ := h
  rw [show L2.start n_Makes_value_at [x0, x1, x2] = [some x0, some x1, some x2, none, none, none] from rfl]
  try dsimp only [cxOf]
  obtain ⟨mo, bk, ls, key, m, B, A, rfl, rfl, rfl, mb, w, hb, hc, hll, k⟩ := h
  obtain ⟨dx, ho⟩ := mb.obj
  have hbk := w.get hb
  wtm_at "go"
  refine g_dget2 ?_
  wtm_at "go"
  refine r_fld (w.rd ho) T.cl_Makes T.na_Makes_by_key rfl ?_
  wtm_at "go"
  refine r_dget2a (isD_of hbk) ?_
  wtm_at "go"
  refine d_lst w (szl (by simp)) fun p0 B1 H1 hp0 s1 i1 w => ?_
  refine r_dget2 (w.get hb) ?_
  obtain ⟨p, ts, e1, e2, hp, at_⟩ : ∃ p ts, (valV (dkM ls) (Sum.inl key)).getD (.ref p0) = .ref p ∧ ts.map (·.2) = mkM ls key ∧ H1 p = some (.lst (tsV ts)) ∧ ∀ t ∈ ts, H1 t.1 = some (.tup [.int t.2.1, oV t.2.2]) := by
    by_cases c : key ∈ ksM ls
    · obtain ⟨i, q, ts, hi, hf, _⟩ := find_at c
      exact ⟨q, ts, by rw [dkM_get hf]; rfl, by unfold mkM; rw [mkL_at hf], w.get (hc _ (List.mem_of_getElem? hi)), fun t ht => w.rd (s1 _ _ (mb.at_ _ (List.mem_of_getElem? hi) t ht))⟩
    · exact ⟨p0, [], by rw [(dkM_ks ls).none c]; rfl, by unfold mkM; rw [mkL_not c], w.rd i1, nofun⟩
  rw [e1]
  wtm_at "go"
  refine r_il (SqL.of hp) ?_
  refine FOR.listJ (K := K) (xs := tsV ts) (fun σ H' => ∃ v4 v5 : Option V, σ = [some (.ref mo), some (.int key), some (.int m), some (oV (vaM (mkM ls key) m)), v4, v5] ∧ H' = H1) ?_ (fun i σ H' => ∃ (acc : Option Int) (v4 v5 : Option V), σ = [some (.ref mo), some (.int key), some (.int m), some (oV acc), v4, v5] ∧ H' = H1 ∧ vaF m acc ((ts.drop i).map (·.2)) = vaM (mkM ls key) m) ⟨none, none, none, rfl, rfl, by rw [List.drop_zero, e2]; rfl⟩
    (fun i σ H' _ ⟨_, _, _, _, e, _⟩ => by rw [e]; exact SqL.of hp) ?_ ?_
  · rintro σ H' ⟨v4, v5, rfl, rfl⟩
    wtm_at "go"
    exact k B1 H' s1 w
  · rintro N hN i x σ H' hi ⟨acc, v4, v5, rfl, rfl, hv⟩
    obtain ⟨t, ht, rfl⟩ := tsV_at hi
    have hat := at_ t (List.mem_of_getElem? ht)
    have hil := (List.getElem?_eq_some_iff.mp ht).1
    have hd : ts.drop i = t :: ts.drop (i + 1) := by
      rw [List.drop_eq_getElem_cons hil]
      rw [List.getElem?_eq_getElem hil] at ht
      cases ht
      rfl
    rw [hd, List.map_cons] at hv
    unfold vaF at hv
    obtain ⟨pt, mm, v⟩ := t
    have hat : H' pt = some (.tup [.int mm, oV v]) := hat
    have hv : (if m < mm then acc else vaF m v ((ts.drop (i + 1)).map (·.2))) = vaM (mkM ls key) m := hv
    wtm_at "go"
    by_cases c : m < mm
    · rw [if_pos c] at hv
      wtm_at "go"
      exact hN _ _ ⟨_, _, by rw [← hv]; rfl, rfl⟩
    · rw [if_neg c] at hv
      wtm_at "go"
      exact ⟨v, _, _, rfl, rfl, hv⟩
  · rintro σ H' ⟨acc, v4, v5, rfl, rfl, hv⟩
    rw [tsV_len, List.drop_length] at hv
    exact ⟨_, _, by rw [← hv]; rfl, rfl⟩

def sp_Makes_all_at (K : PySem.W.Frag) (D : Ad) : Sp := Sp2 fun x y H Q _ => ∃ (mo bk : Addr) (ls : List Lt) (m : Int) (B : Hp) (A : List Cell), x = .ref mo ∧ y = .int m ∧ MkB D B mo bk ls ∧ W B A H ∧ (bk, .dK (dkM ls)) ∈ A ∧ (∀ e ∈ ls, ltC e ∈ A) ∧ (∀ k, (mkL ls k).length < 10000) ∧ ls.length < 10000 ∧
  ∀ (q : Addr) (B' H' : Hp), Same B B' → W B' A H' → B' q = some (.lst ((allK ls m).map V.int)) → Q (.ref q) H'
theorem ok_Makes_all_at {D : Ad} (T : Txt K mg D) : FnOk P w K mg base (L2.CX P w) 2 D.a_Makes_all_at D.d_Makes_all_at ["self", "moment"] (sp_Makes_all_at K D) := by
  refine T.F_Makes_all_at.okX sc_Makes_all_at (fun vs H Q E h => sp2_len h) (fun cdv A outer s H vs Q E hr h => ⟨_, (pss_one (ps_ret (pe_lc (own := [("key", 2)]) (g := gName 2) rfl sc_Makes_all_at.nd (pi_list (pe_callB (call_sortDI rfl) (by rfl) T.n_sorted bt_sorted (pa_cons (pe_fld (pv 0) rfl) pa_nil))) (blkOk_by (own := [("key", 2)]) (N := n_Makes_all_at) (sc := defScope s_Makes_all_at) (by decide +kernel)) (fun _ _ _ _ _ => (pg_name (i := 2) sc_Makes_all_at.nd rfl (Or.inl rfl))) (fun _ _ _ _ _ => (pts_one (pt_cmpR op_notNo (pe_meth (sp := sp_Makes_value_at K D) (k := 1) (pv 0) T.cl_Makes T.me_Makes_value_at (ok_Makes_value_at T) (hr.mono (j := 1) (by decide)) T.b_Makes_value_at .nil passF (pa_cons (pv 2) (pa_cons (pv 1) pa_nil))) pe_non (nomark _)))) (fun _ _ _ _ _ => (pv 2))))), ?_⟩)
  obtain ⟨x0, x1, rfl, h⟩ := h
  rw [show L2.start n_Makes_all_at [x0, x1] = [some x0, some x1, none] from rfl]
  try dsimp only [cxOf]
  obtain ⟨mo, bk, ls, m, B, A, rfl, rfl, mb, w, hb, hc, hll, hls, k⟩ := h
  obtain ⟨dx, ho⟩ := mb.obj
  wtm_at "go"
  refine r_fld (w.rd ho) T.cl_Makes T.na_Makes_by_key rfl ?_
  wtm_at "go"
  refine r_sortD w (w.get hb) (dkM_ks ls) fun ms p1 B1 H1 pm so s1 i1 w => ?_
  obtain rfl := srt_uniq pm so
  have mb := mb.mono s1
  have hsl : (srt (ksM ls)).length = ls.length := by rw [(srt_perm _).length_eq]; exact List.length_map ..
  wtm_at "go"
  refine r_il (SqL.of (w.rd i1)) ?_
  intro D1 hD1
  refine LC.list (K := K) w hD1 (SqL.of i1) (szlt (by rw [List.length_map]; omega)) (fun i B acc => acc = (((srt (ksM ls)).take i).filter fun k => (vaM (mkM ls k) m).isSome).map V.int) rfl ?_ ?_
  · rintro i x B2 acc H2 Nx hi s2 w rfl hl1 hl2 hN
    obtain ⟨key, rfl, hkey, hil⟩ := getV hi
    have mb := mb.mono s2
    obtain ⟨dx, ho⟩ := mb.obj
    have htk := tk_filter (P := fun k : Int => (vaM (mkM ls k) m).isSome) hkey
    have hfl := filt_le (fun k : Int => (vaM (mkM ls k) m).isSome) (srt (ksM ls)) i
    wtm_at "go"
    refine ⟨rfl, ?_⟩
    wtm_at "go"
    refine r_meth (w.rd ho) rfl ?_
    wtm_at "go"
    refine ⟨_, _, _, rfl, mo, bk, ls, key, m, B2, _, rfl, rfl, rfl, mb, w, List.mem_cons_of_mem _ hb, fun e he => List.mem_cons_of_mem _ (hc e he), hll, fun B3 H3 s3 w => ?_⟩
    cases ev : vaM (mkM ls key) m with
    | none =>
      rw [ev] at htk
      rw [if_neg (by exact Bool.false_ne_true), List.append_nil] at htk
      dsimp only [oV]
      wtm_at "go"
      refine hN _ _ _ s3 w ?_ (by rw [List.length_map]; omega)
      rw [htk]
    | some v =>
      rw [ev] at htk
      rw [if_pos (show (some v : Option Int).isSome = true from rfl)] at htk
      dsimp only [oV]
      wtm_at "go"
      refine r_acc w hl2 fun H4 w => ?_
      refine hN _ _ _ s3 w ?_ (by rw [List.length_append, List.length_map, List.length_singleton]; omega)
      rw [htk, List.map_append]
      rfl
  rintro B2 B3 acc H3 s3 _ i3 w rfl hl1
  rw [List.length_map, List.take_length] at i3
  exact k D1 B3 H3 (same_trans s1 s3) w i3


theorem Ho.mv2 {D : Ad} {B H : Hp} {L : List Cell} {a : Addr} {h : Hh} (ho : Ho D B H L a h) : ∃ A, W B A H ∧ ((h.bk, .dK (dkM h.ls)) ∈ A ∧ ∀ e ∈ h.ls, ltC e ∈ A) ∧ ∀ B' H', Same B B' → W B' A H' → Ho D B' H' L a h := by
  obtain ⟨⟨dx, sw⟩, si, lb, li, lp, mb, pb⟩ := ho
  obtain ⟨dxs, w⟩ := sw.w
  refine ⟨_, w, ⟨?_, fun e he => ?_⟩, fun B' H' s w' => ⟨⟨dx, sw.ob.mono s, fun b e => (sw.yb b e).mono s, dxs, w'⟩, si, lb.mono s, li, lp, mb.mono s, fun t ht => s _ _ (pb t ht)⟩⟩
  · exact List.mem_append_right _ (List.mem_cons_of_mem _ (List.mem_append_left _ (List.mem_cons_of_mem _ (List.mem_cons_self ..))))
  · exact List.mem_append_right _ (List.mem_cons_of_mem _ (List.mem_append_left _ (List.mem_cons_of_mem _ (List.mem_cons_of_mem _ (List.mem_cons_of_mem _ (List.mem_cons_of_mem _ (List.mem_map.mpr ⟨e, he, rfl⟩)))))))
/-! TooOld -/
abbrev sp_TooOld_init (_ : PySem.W.Frag) (D : Ad) : Sp := spX1 D.c_TooOld "moment"
abbrev cTO (D : Ad) : Addr := D.c_TooOld
theorem ok_TooOld_init {D : Ad} (T : Txt K mg D) : FnOk P w K mg base (L2.CX P w) 1 D.a_TooOld_init D.d_TooOld_init ["self", "moment"] (sp_TooOld_init K D) := by
  refine T.F_TooOld_init.okX sc_TooOld_init (fun vs H Q E h => sp2_len h) (fun cdv A outer s H vs Q E hr h => ⟨_, (pss_cons (ps_expr (pe_weinit rfl T.g_WalkError T.cr_WalkError T.ve_WalkError (pa_cons (pv 0) (pa_cons pe_str pa_nil))))
    (pss_one (ps_ost (pv 0) (pv 1)))), ?_⟩)
  obtain ⟨x0, x1, rfl, h⟩ := h
  rw [show L2.start n_TooOld_init [x0, x1] = [some x0, some x1] from rfl]
  try dsimp only [cxOf]
  obtain ⟨a, rfl, ha, k⟩ := h
  wtm_at "go"
  refine r_vei T.xc_TooOld.ox (by simp) ha ?_
  wtm_at "go"
  refine r_ost T.xc_TooOld.ox T.no_TooOld_moment ha fun dx h1 h2 => ?_
  wtm_at "go"
  exact k dx h1 h2

def MoE (D : Ad) (rz : Prop) (H : Hp) (B : Hp) (L : List Cell) (a : Addr) (h : Hh) (m : Int) (E : XK) : Prop :=
  rz ∧ ((m < h.floor ∧ ∀ d B' H', Same B B' → B' d = some (.xd [("moment", .int m)]) → Ho D B' H' L a h → E (.ref (cTO D)) (some d) H') ∨ (h.floor ≤ m ∧ h.now < m ∧ ∀ d B' H', Same B B' → B' d = some (.xd [("moment", .int m)]) → Ho D B' H' L a h → E (.ref (cNM D)) (some d) H'))
def sp_House_ask_moment (K : PySem.W.Frag) (D : Ad) : Sp := Sp2 fun x y H Q E => ∃ (a : Addr) (h : Hh) (m : Int) (B : Hp) (L : List Cell), x = .ref a ∧ y = .int m ∧ Ho D B H L a h ∧ ((h.floor ≤ m ∧ m ≤ h.now ∧ Q .non H) ∨ MoE D rz_House_ask_moment H B L a h m E)
theorem ok_House_ask_moment {D : Ad} (T : Txt K mg D) : FnOk P w K mg base (L2.CX P w) 3 D.a_House_ask_moment D.d_House_ask_moment ["self", "moment"] (sp_House_ask_moment K D) := by
  refine T.F_House_ask_moment.okX sc_House_ask_moment (fun vs H Q E h => sp2_len h) (fun cdv A outer s H vs Q E hr h => ⟨_, (pss_cons (ps_if (pt_cmpR op_lt (pv 1) (pe_fld (pv 0) rfl) (nomark _))
      (pss_one (ps_raiseO rfl (takes_of rfl rfl rfl rfl) T.xc_TooOld T.iC_TooOld T.tI_TooOld (ok_TooOld_init T) (hr.mono (by decide)) T.b_TooOld_init .nil passF rfl T.g_TooOld (pa_cons (pv 1) pa_nil)))
      pss_nil)
    (pss_one (ps_if (pt_cmpR op_gt (pv 1) (pe_fld (pv 0) rfl) (nomark _))
      (pss_one (ps_raiseO rfl (takes_of rfl rfl rfl rfl) T.xc_NoMoment T.iC_NoMoment T.tI_NoMoment (ok_NoMoment_init T) (hr.mono (by decide)) T.b_NoMoment_init .nil passF rfl T.g_NoMoment (pa_cons (pv 1) pa_nil)))
      pss_nil))), ?_⟩)
  obtain ⟨x0, x1, rfl, h⟩ := h
  rw [show L2.start n_House_ask_moment [x0, x1] = [some x0, some x1] from rfl]
  try dsimp only [cxOf]
  obtain ⟨a, h, m, B, L, rfl, rfl, ho, hq⟩ := h
  obtain ⟨dx, hoa⟩ := ho.obj
  wtm_at "go"
  refine r_fld hoa T.cl_House T.na_House_floor rfl ?_
  rcases hq with ⟨h1, h2, q⟩ | ⟨hz, hq⟩
  · have h3 : ¬ m < h.floor := by omega
    have h4 : ¬ h.now < m := by omega
    wtm_at "go"
    refine r_fld hoa T.cl_House T.na_House_now rfl ?_
    wtm_at "go"
    exact q
  · rcases hq with ⟨h1, q⟩ | ⟨h1, h2, q⟩
    · wtm_at "go"
      obtain ⟨A, w, back⟩ := ho.mv
      refine r_raiseX1 w fun d B' H' s i w => ?_
      exact q d B' H' s i (back B' H' s w)
    · have h3 : ¬ m < h.floor := by omega
      wtm_at "go"
      refine r_fld hoa T.cl_House T.na_House_now rfl ?_
      wtm_at "go"
      obtain ⟨A, w, back⟩ := ho.mv
      refine r_raiseX1 w fun d B' H' s i w => ?_
      exact q d B' H' s i (back B' H' s w)


/-! the program's tokens -/
local macro_rules | `(tactic| wtm_at "s0") => `(tactic| first | with_reducible refine g_raise0 ?_)
inductive Tk where
  | sl (l h : Int)
  | up (l : Int) (h : Option Int)
  | dn (l : Option Int) (h : Int)
abbrev cBS (_ : Ad) : Addr := 0
namespace Tk
def cls (D : Ad) : Tk → Addr
  | .sl _ _ => cBS D
  | .up _ _ => D.c_Up
  | .dn _ _ => D.c_Down
def num : Tk → Int
  | .sl _ _ => 0
  | .up _ _ => 1
  | .dn _ _ => 2
def at_ : Tk → Option Int
  | .sl l _ => some l
  | .up l _ => some l
  | .dn l _ => l
def en : Tk → Option Int
  | .sl _ h => some h
  | .up _ h => h
  | .dn _ h => some h
def ok : Tk → Prop
  | .sl l h => 0 ≤ l ∧ l ≤ h ∧ h ≤ 65536
  | .up l h => 0 ≤ l ∧ ∀ n, h = some n → l ≤ n
  | .dn l h => 0 ≤ h ∧ ∀ n, l = some n → h ≤ n
def holds : Tk → Nat → Bool
  | .sl l h, k => decide (l ≤ (r16 k : Nat)) && decide (((r16 k : Nat) : Int) < h)
  | .up l none, k => decide (l ≤ (k : Int))
  | .up l (some h), k => decide (l ≤ (k : Int)) && decide ((k : Int) < h)
  | .dn none h, k => decide (h ≤ (k : Int))
  | .dn (some l) h, k => decide (h ≤ (k : Int)) && decide ((k : Int) ≤ l)
def kind : Tk → Str
  | .sl _ _ => "slots"
  | .up _ _ => "up"
  | .dn _ _ => "down"
end Tk
def sOf : Option Int → Str
  | none => "-"
  | some n => toString n
def sml (o : Option Int) : Prop := ∀ n, o = some n → n.natAbs.log2 < 1920
theorem sOf_len {o : Option Int} (h : sml o) : (sOf o).length ≤ 1921 := by
  cases o with
  | none => decide
  | some n => exact str_len n (h n rfl)
def Tk.words (t : Tk) : Str := t.kind ++ " " ++ sOf t.at_ ++ " " ++ sOf t.en
/-- at t stands a token -/
def IsTk (D : Ad) (H : Hp) (t : Addr) (k : Tk) : Prop := ∃ dx, H t = some (.ins (k.cls D) dx [("at", oV k.at_), ("end", oV k.en)])
theorem IsTk.mono {D : Ad} {H H' : Hp} {t : Addr} {k : Tk} (h : IsTk D H t k) (s : Same H H') : IsTk D H' t k := h.imp fun _ e => s _ _ e
def isW : V → Bool
  | .int _ => true
  | _ => false
def Flat (x : V) : Prop := (∃ n, x = .int n) ∨ (∃ b, x = .bl b) ∨ (∃ z, x = .str z) ∨ x = .non
def sp_is_whole (_ : PySem.W.Frag) (_ : Ad) : Sp := Sp1 fun x H Q _ => Flat x ∧ Q (.bl (isW x)) H
theorem ok_is_whole {D : Ad} (T : Txt K mg D) : FnOk P w K mg base (L2.CX P w) 1 D.a_is_whole D.d_is_whole ["thing"] (sp_is_whole K D) := by
  refine T.F_is_whole.okX sc_is_whole (fun vs H Q E h => sp1_len h) (fun cdv A outer s H vs Q E hr h => ⟨_, (pss_one (ps_ret (pe_and (pe_callB call_isi (by rfl) T.n_isinstance bt_isinstance (pa_cons (pv 0) (pa_cons (pe_bltn (v := .ty "int") (by rfl) T.n_int bt_int rfl) pa_nil))) (pe_one (pe_not (pe_callB call_isi (by rfl) T.n_isinstance bt_isinstance (pa_cons (pv 0) (pa_cons (pe_bltn (v := .ty "bool") (by rfl) T.n_bool bt_bool rfl) pa_nil)))))))), ?_⟩)
  obtain ⟨x0, rfl, h⟩ := h
  rw [show L2.start n_is_whole [x0] = [some x0] from rfl]
  try dsimp only [cxOf]
  obtain ⟨hf, k⟩ := h
  rcases hf with ⟨n, rfl⟩ | ⟨b, rfl⟩ | ⟨z, rfl⟩ | rfl
  · wtm_at "go"
    exact k
  · wtm_at "go"
    exact k
  · wtm_at "go"
    exact k
  · wtm_at "go"
    exact k

def sp_bounded (_ : PySem.W.Frag) (D : Ad) : Sp := Sp2 fun x y H Q E => ∃ m : Option Int, y = oV m ∧ ((∃ n, x = .int n ∧ 0 ≤ n ∧ (∀ k, m = some k → n ≤ k) ∧ Q (.int n) H) ∨
  (rz_bounded ∧ Flat x ∧ (∀ n, x = .int n → n < 0 ∨ ∃ k, m = some k ∧ k < n) ∧ E (.ref D.c_NoToken) none H))
theorem ok_bounded {D : Ad} (T : Txt K mg D) : FnOk P w K mg base (L2.CX P w) 2 D.a_bounded D.d_bounded ["number", "most"] (sp_bounded K D) := by
  refine T.F_bounded.okX sc_bounded (fun vs H Q E h => sp2_len h) (fun cdv A outer s H vs Q E hr h => ⟨_, (pss_cons (ps_if (PW.pt (pw_or (pt_not (pt_val (pe_call (ok_is_whole T) (hr.mono (by decide)) rfl T.g_is_whole T.F_is_whole.kp T.b_is_whole .nil pX (pa_cons (pv 0) pa_nil)))) (pw_or (pt_cmpR op_lt (pv 0) pe_int (nomark _)) (pw_or1 (PW.pt (pw_and (pt_cmpR op_notNo (pv 1) pe_non (nomark _)) (pw_and1 (pt_cmpR op_gt (pv 0) (pv 1) (nomark _)))))))))
      (pss_one ps_dead)
      pss_nil)
    (pss_one (ps_ret (pv 0)))), ?_⟩)
  obtain ⟨x0, x1, rfl, h⟩ := h
  rw [show L2.start n_bounded [x0, x1] = [some x0, some x1] from rfl]
  try dsimp only [cxOf]
  obtain ⟨m, rfl, hk⟩ := h
  rcases hk with ⟨n, rfl, h0, hm, k⟩ | ⟨hz, hf, hbad, k⟩
  · wtm_at "go"
    refine ⟨_, rfl, .inl ⟨n, rfl⟩, ?_⟩
    rw [show isW (.int n) = true from rfl]
    cases m with
    | none =>
      dsimp only [oV]
      wtm_at "go"
      exact k
    | some kk =>
      have := hm kk rfl
      dsimp only [oV]
      wtm_at "go"
      exact k
  · exact hz.elim

def sp_bound_or_none (_ : PySem.W.Frag) (D : Ad) : Sp := Sp1 fun x H Q E => (∃ o : Option Int, x = oV o ∧ (∀ n, o = some n → 0 ≤ n) ∧ Q (oV o) H) ∨
  (rz_bounded ∧ x ≠ .non ∧ Flat x ∧ (∀ n, x = .int n → n < 0) ∧ E (.ref D.c_NoToken) none H)
theorem ok_bound_or_none {D : Ad} (T : Txt K mg D) : FnOk P w K mg base (L2.CX P w) 3 D.a_bound_or_none D.d_bound_or_none ["number"] (sp_bound_or_none K D) := by
  refine T.F_bound_or_none.okX sc_bound_or_none (fun vs H Q E h => sp1_len h) (fun cdv A outer s H vs Q E hr h => ⟨_, (pss_cons (ps_if (pt_cmpR op_isNo (pv 0) pe_non (nomark _))
      (pss_one (ps_ret pe_non))
      pss_nil)
    (pss_one (ps_ret (pe_call (ok_bounded T) (hr.mono (by decide)) rfl T.g_bounded T.F_bounded.kp T.b_bounded .nil pX (pa_cons (pv 0) (pa_cons pe_non pa_nil)))))), ?_⟩)
  obtain ⟨x0, rfl, h⟩ := h
  rw [show L2.start n_bound_or_none [x0] = [some x0] from rfl]
  try dsimp only [cxOf]
  rcases h with ⟨o, rfl, h0, k⟩ | ⟨hz, hn, hf, hbad, k⟩
  · cases o with
    | none =>
      dsimp only [oV]
      wtm_at "go"
      exact k
    | some n =>
      dsimp only [oV]
      wtm_at "go"
      exact ⟨_, _, rfl, none, rfl, .inl ⟨n, rfl, h0 n rfl, nofun, k⟩⟩
  · exact hz.elim

def sp_in_order (_ : PySem.W.Frag) (D : Ad) : Sp := Sp2 fun x y H Q E => ∃ l h : Int, x = .int l ∧ y = .int h ∧ ((l ≤ h ∧ Q .non H) ∨ (rz_in_order ∧ h < l ∧ E (.ref D.c_NoToken) none H))
theorem ok_in_order {D : Ad} (T : Txt K mg D) : FnOk P w K mg base (L2.CX P w) 1 D.a_in_order D.d_in_order ["low", "high"] (sp_in_order K D) := by
  refine T.F_in_order.okX sc_in_order (fun vs H Q E h => sp2_len h) (fun cdv A outer s H vs Q E hr h => ⟨_, (pss_one (ps_if (pt_cmpR op_gt (pv 0) (pv 1) (nomark _))
      (pss_one ps_dead)
      pss_nil)), ?_⟩)
  obtain ⟨x0, x1, rfl, h⟩ := h
  rw [show L2.start n_in_order [x0, x1] = [some x0, some x1] from rfl]
  try dsimp only [cxOf]
  obtain ⟨l, h, rfl, rfl, hk⟩ := h
  rcases hk with ⟨hl, k⟩ | ⟨hz, hl, k⟩
  · wtm_at "go"
    exact k
  · exact hz.elim

def tkh (t : Tk) : Prop := ∀ l h, t ≠ .sl l h
def sp_Token_init (_ : PySem.W.Frag) (D : Ad) : Sp := Sp3 fun x y z H Q _ => ∃ (a dx : Addr) (t : Tk) (B : Hp) (L : List Cell), x = .ref a ∧ tkh t ∧ W B ((a, .ins (t.cls D) dx []) :: L) H ∧ ∀ H', W B ((a, .ins (t.cls D) dx [("at", y), ("end", z)]) :: L) H' → Q .non H'
theorem ok_Token_init {D : Ad} (T : Txt K mg D) : FnOk P w K mg base (L2.CX P w) 1 D.a_Token_init D.d_Token_init ["self", "at", "end"] (sp_Token_init K D) := by
  refine T.F_Token_init.okX sc_Token_init (fun vs H Q E h => sp3_len h) (fun cdv A outer s H vs Q E hr h => ⟨_, (pss_cons (ps_fld (pv 0) (pv 1) rfl)
    (pss_one (ps_fld (pv 0) (pv 2) rfl))), ?_⟩)
  obtain ⟨x0, x1, x2, rfl, h⟩ := h
  rw [show L2.start n_Token_init [x0, x1, x2] = [some x0, some x1, some x2] from rfl]
  try dsimp only [cxOf]
  obtain ⟨a, dx, t, B, L, rfl, ht, w, k⟩ := h
  have hc : Cls K (t.cls D) ∧ NoAttr K (t.cls D) "at" ∧ NoAttr K (t.cls D) "end" := by
    cases t with
    | sl l h => exact absurd rfl (ht l h)
    | up l h => exact ⟨T.cl_Up, T.na_Up_at, T.na_Up_end⟩
    | dn l h => exact ⟨T.cl_Down, T.na_Down_at, T.na_Down_end⟩
  wtm_at "go"
  refine r_sfld (w.get (List.mem_cons_self ..)) hc.1 hc.2.1 (by simp) ?_
  have w := W.put0 w (.ins (t.cls D) dx (putF "at" x1 []))
  wtm_at "go"
  refine r_sfld (w.get (List.mem_cons_self ..)) hc.1 hc.2.2 (by simp [putF]) ?_
  have w := W.put0 w (.ins (t.cls D) dx (putF "end" x2 (putF "at" x1 [])))
  wtm_at "go"
  exact k _ w

def sp_BySlots_init (_ : PySem.W.Frag) (D : Ad) : Sp := Sp3 fun x y z H Q E => ∃ (a dx : Addr) (B : Hp) (L : List Cell), x = .ref a ∧ W B ((a, .ins (cBS D) dx []) :: L) H ∧
  ((∃ l h : Int, y = .int l ∧ z = .int h ∧ (Tk.sl l h).ok ∧ ∀ H', W B ((a, .ins (cBS D) dx [("at", .int l), ("end", .int h)]) :: L) H' → Q .non H') ∨
  (rz_bounded ∧ rz_in_order ∧ Flat y ∧ Flat z ∧ (∀ l h : Int, y = .int l → z = .int h → ¬ (Tk.sl l h).ok) ∧ ∀ H', W B L H' → E (.ref D.c_NoToken) none H'))
def sp_Up_init (_ : PySem.W.Frag) (D : Ad) : Sp := Sp3 fun x y z H Q E => ∃ (a dx : Addr) (B : Hp) (L : List Cell), x = .ref a ∧ W B ((a, .ins D.c_Up dx []) :: L) H ∧
  ((∃ (l : Int) (h : Option Int), y = .int l ∧ z = oV h ∧ (Tk.up l h).ok ∧ ∀ H', W B ((a, .ins D.c_Up dx [("at", .int l), ("end", oV h)]) :: L) H' → Q .non H') ∨
  (rz_bounded ∧ rz_in_order ∧ Flat y ∧ Flat z ∧ (∀ (l : Int) (h : Option Int), y = .int l → z = oV h → ¬ (Tk.up l h).ok) ∧ ∀ H', W B L H' → E (.ref D.c_NoToken) none H'))
theorem ok_Up_init {D : Ad} (T : Txt K mg D) : FnOk P w K mg base (L2.CX P w) 4 D.a_Up_init D.d_Up_init ["self", "at", "end"] (sp_Up_init K D) := by
  refine T.F_Up_init.ok sc_Up_init (fun vs H Q E h => sp3_len h) (fun cdv A outer s H vs Q E hr h => ⟨_, (pss_cons (ps_expr (pe_cinit rfl T.g_Token T.cr_Token T.ci_Token_init rfl (ok_Token_init T) (hr.mono (by decide)) T.F_Token_init.kp T.b_Token_init .nil pX (pa_cons (pv 0) (pa_cons (pe_call (ok_bounded T) (hr.mono (by decide)) rfl T.g_bounded T.F_bounded.kp T.b_bounded .nil pX (pa_cons (pv 1) (pa_cons pe_non pa_nil))) (pa_cons (pe_call (ok_bound_or_none T) (hr.mono (by decide)) rfl T.g_bound_or_none T.F_bound_or_none.kp T.b_bound_or_none .nil pX (pa_cons (pv 2) pa_nil)) pa_nil)))))
    (pss_one (ps_if (pt_cmpR op_notNo (pv 2) pe_non (nomark _))
      (pss_one (ps_expr (pe_call (ok_in_order T) (hr.mono (by decide)) rfl T.g_in_order T.F_in_order.kp T.b_in_order .nil pX (pa_cons (pv 1) (pa_cons (pv 2) pa_nil)))))
      pss_nil))), ?_⟩)
  obtain ⟨x0, x1, x2, rfl, h⟩ := h
  rw [show L2.start n_Up_init [x0, x1, x2] = [some x0, some x1, some x2] from rfl]
  try dsimp only [cxOf]
  obtain ⟨a, dx, B, L, rfl, w, hk⟩ := h
  rcases hk with ⟨l, h, rfl, rfl, ⟨h1, h2⟩, k⟩ | ⟨hz, hz2, hfy, hfz, hbad, k⟩
  · wtm_at "go"
    refine ⟨_, _, rfl, none, rfl, .inl ⟨l, rfl, h1, nofun, ?_⟩⟩
    wtm_at "go"
    refine ⟨_, rfl, .inl ⟨h, rfl, fun n e => by have := h2 n e; omega, ?_⟩⟩
    wtm_at "go"
    refine ⟨_, _, _, rfl, a, dx, .up l h, B, L, rfl, (by first | exact trivial | exact nofun), w, fun H' w => ?_⟩
    cases h with
    | none =>
      dsimp only [oV] at w ⊢
      wtm_at "go"
      exact k _ w
    | some n =>
      dsimp only [oV] at w ⊢
      wtm_at "go"
      refine ⟨_, _, rfl, l, n, rfl, rfl, .inl ⟨h2 n rfl, ?_⟩⟩
      wtm_at "go"
      exact k _ w
  · exact hz.elim

def sp_Down_init (_ : PySem.W.Frag) (D : Ad) : Sp := Sp3 fun x y z H Q E => ∃ (a dx : Addr) (B : Hp) (L : List Cell), x = .ref a ∧ W B ((a, .ins D.c_Down dx []) :: L) H ∧
  ((∃ (l : Option Int) (h : Int), y = oV l ∧ z = .int h ∧ (Tk.dn l h).ok ∧ ∀ H', W B ((a, .ins D.c_Down dx [("at", oV l), ("end", .int h)]) :: L) H' → Q .non H') ∨
  (rz_bounded ∧ rz_in_order ∧ Flat y ∧ Flat z ∧ (∀ (l : Option Int) (h : Int), y = oV l → z = .int h → ¬ (Tk.dn l h).ok) ∧ ∀ H', W B L H' → E (.ref D.c_NoToken) none H'))
theorem ok_Down_init {D : Ad} (T : Txt K mg D) : FnOk P w K mg base (L2.CX P w) 4 D.a_Down_init D.d_Down_init ["self", "at", "end"] (sp_Down_init K D) := by
  refine T.F_Down_init.ok sc_Down_init (fun vs H Q E h => sp3_len h) (fun cdv A outer s H vs Q E hr h => ⟨_, (pss_cons (ps_expr (pe_cinit rfl T.g_Token T.cr_Token T.ci_Token_init rfl (ok_Token_init T) (hr.mono (by decide)) T.F_Token_init.kp T.b_Token_init .nil pX (pa_cons (pv 0) (pa_cons (pe_call (ok_bound_or_none T) (hr.mono (by decide)) rfl T.g_bound_or_none T.F_bound_or_none.kp T.b_bound_or_none .nil pX (pa_cons (pv 1) pa_nil)) (pa_cons (pe_call (ok_bounded T) (hr.mono (by decide)) rfl T.g_bounded T.F_bounded.kp T.b_bounded .nil pX (pa_cons (pv 2) (pa_cons pe_non pa_nil))) pa_nil)))))
    (pss_one (ps_if (pt_cmpR op_notNo (pv 1) pe_non (nomark _))
      (pss_one (ps_expr (pe_call (ok_in_order T) (hr.mono (by decide)) rfl T.g_in_order T.F_in_order.kp T.b_in_order .nil pX (pa_cons (pv 2) (pa_cons (pv 1) pa_nil)))))
      pss_nil))), ?_⟩)
  obtain ⟨x0, x1, x2, rfl, h⟩ := h
  rw [show L2.start n_Down_init [x0, x1, x2] = [some x0, some x1, some x2] from rfl]
  try dsimp only [cxOf]
  obtain ⟨a, dx, B, L, rfl, w, hk⟩ := h
  rcases hk with ⟨l, h, rfl, rfl, ⟨h1, h2⟩, k⟩ | ⟨hz, hz2, hfy, hfz, hbad, k⟩
  · wtm_at "go"
    refine ⟨_, rfl, .inl ⟨l, rfl, fun n e => by have := h2 n e; omega, ?_⟩⟩
    wtm_at "go"
    refine ⟨_, _, rfl, none, rfl, .inl ⟨h, rfl, h1, nofun, ?_⟩⟩
    wtm_at "go"
    refine ⟨_, _, _, rfl, a, dx, .dn l h, B, L, rfl, (by first | exact trivial | exact nofun), w, fun H' w => ?_⟩
    cases l with
    | none =>
      dsimp only [oV] at w ⊢
      wtm_at "go"
      exact k _ w
    | some n =>
      dsimp only [oV] at w ⊢
      wtm_at "go"
      refine ⟨_, _, rfl, h, n, rfl, rfl, .inl ⟨h2 n rfl, ?_⟩⟩
      wtm_at "go"
      exact k _ w
  · exact hz.elim

def sp_shown (_ : PySem.W.Frag) (_ : Ad) : Sp := Sp1 fun x H Q _ => ∃ o : Option Int, x = oV o ∧ sml o ∧ Q (.str (sOf o)) H

def tkw (_ : Tk) : Prop := True
/-! the tokens' words and what they hold; tkw tells which kinds the law asks for words -/
local macro_rules | `(tactic| wtm_at "rm") => `(tactic| (with_reducible refine' r_meth ?gvE ?gvN ?gvH); (case gvE => wtm_at "rd"); (case gvN => rfl))
local macro_rules | `(tactic| wtm_at "ei") => `(tactic| first
  | (wtm_at "rm")
  | (refine Or.inl ?_; wtm_at "go"; wtm_at "rm")
  | (refine Or.inr ?_; wtm_at "go"; wtm_at "rm")
  | (refine Or.inr ?_; refine Or.inl ?_; wtm_at "go"; wtm_at "rm")
  | (refine Or.inr ?_; refine Or.inr ?_; wtm_at "go"; wtm_at "rm"))
def sp_BySlots_kind_word (_ : PySem.W.Frag) (_ : Ad) : Sp := Sp1 fun _ H Q _ => Q (.str "slots") H
def sp_Up_kind_word (_ : PySem.W.Frag) (_ : Ad) : Sp := Sp1 fun _ H Q _ => Q (.str "up") H
def sp_Down_kind_word (_ : PySem.W.Frag) (_ : Ad) : Sp := Sp1 fun _ H Q _ => Q (.str "down") H
theorem kind_len (t : Tk) : t.kind.length ≤ 5 := by
  cases t with
  | sl l h => exact (by decide : ("slots" : Str).length ≤ 5)
  | up l h => exact (by decide : ("up" : Str).length ≤ 5)
  | dn l h => exact (by decide : ("down" : Str).length ≤ 5)
def sp_Token_words (_ : PySem.W.Frag) (D : Ad) : Sp := Sp1 fun x H Q _ => ∃ (t : Addr) (k : Tk), x = .ref t ∧ IsTk D H t k ∧ tkw k ∧ sml k.at_ ∧ sml k.en ∧ Q (.str k.words) H
def sp_BySlots_holds (_ : PySem.W.Frag) (D : Ad) : Sp := Sp2 fun x y H Q _ => ∃ (t : Addr) (l h : Int) (n : Nat), x = .ref t ∧ y = .int n ∧ IsTk D H t (.sl l h) ∧ Q (.bl ((Tk.sl l h).holds n)) H
def sp_Up_holds (_ : PySem.W.Frag) (D : Ad) : Sp := Sp2 fun x y H Q _ => ∃ (t : Addr) (l : Int) (h : Option Int) (n : Nat), x = .ref t ∧ y = .int n ∧ IsTk D H t (.up l h) ∧ Q (.bl ((Tk.up l h).holds n)) H
theorem ok_Up_holds {D : Ad} (T : Txt K mg D) : FnOk P w K mg base (L2.CX P w) 1 D.a_Up_holds D.d_Up_holds ["self", "key"] (sp_Up_holds K D) := by
  refine T.F_Up_holds.okX sc_Up_holds (fun vs H Q E h => sp2_len h) (fun cdv A outer s H vs Q E hr h => ⟨_, (pss_one (ps_ret (pe_and (pe_cmpR op_le (pe_fld (pv 0) rfl) (pv 1) (nomark _)) (pe_one (pe_or (pe_cmpR op_isNo (pe_fld (pv 0) rfl) pe_non (nomark _)) (pe_one (pe_cmpR op_lt (pv 1) (pe_fld (pv 0) rfl) (nomark _)))))))), ?_⟩)
  obtain ⟨x0, x1, rfl, h⟩ := h
  rw [show L2.start n_Up_holds [x0, x1] = [some x0, some x1] from rfl]
  try dsimp only [cxOf]
  obtain ⟨t, l, h, n, rfl, rfl, ⟨dx, ht⟩, k⟩ := h
  wtm_at "go"
  refine r_fld ht T.cl_Up T.na_Up_at rfl ?_
  dsimp only [Tk.at_, oV]
  wtm_at "go"
  cases h with
  | none =>
    have k : Q (.bl (decide (l ≤ (n : Int)))) H := k
    wtm_at "br"
    · intro c
      wtm_at "go"
      refine r_fld ht T.cl_Up T.na_Up_end rfl ?_
      dsimp only [Tk.en, oV]
      wtm_at "go"
      rw [decide_eq_true c] at k
      exact k
    · intro c
      rw [decide_eq_false c] at k
      exact k
  | some m =>
    have k : Q (.bl (decide (l ≤ (n : Int)) && decide ((n : Int) < m))) H := k
    wtm_at "br"
    · intro c
      wtm_at "go"
      refine r_fld ht T.cl_Up T.na_Up_end rfl ?_
      dsimp only [Tk.en, oV]
      wtm_at "go"
      refine r_fld ht T.cl_Up T.na_Up_end rfl ?_
      dsimp only [Tk.en, oV]
      wtm_at "go"
      rw [decide_eq_true c, Bool.true_and] at k
      exact k
    · intro c
      rw [decide_eq_false c, Bool.false_and] at k
      exact k

def sp_Down_holds (_ : PySem.W.Frag) (D : Ad) : Sp := Sp2 fun x y H Q _ => ∃ (t : Addr) (l : Option Int) (h : Int) (n : Nat), x = .ref t ∧ y = .int n ∧ IsTk D H t (.dn l h) ∧ Q (.bl ((Tk.dn l h).holds n)) H
theorem ok_Down_holds {D : Ad} (T : Txt K mg D) : FnOk P w K mg base (L2.CX P w) 1 D.a_Down_holds D.d_Down_holds ["self", "key"] (sp_Down_holds K D) := by
  refine T.F_Down_holds.okX sc_Down_holds (fun vs H Q E h => sp2_len h) (fun cdv A outer s H vs Q E hr h => ⟨_, (pss_one (ps_ret (pe_and (pe_cmpR op_le (pe_fld (pv 0) rfl) (pv 1) (nomark _)) (pe_one (pe_or (pe_cmpR op_isNo (pe_fld (pv 0) rfl) pe_non (nomark _)) (pe_one (pe_cmpR op_le (pv 1) (pe_fld (pv 0) rfl) (nomark _)))))))), ?_⟩)
  obtain ⟨x0, x1, rfl, h⟩ := h
  rw [show L2.start n_Down_holds [x0, x1] = [some x0, some x1] from rfl]
  try dsimp only [cxOf]
  obtain ⟨t, l, h, n, rfl, rfl, ⟨dx, ht⟩, k⟩ := h
  wtm_at "go"
  refine r_fld ht T.cl_Down T.na_Down_end rfl ?_
  dsimp only [Tk.en, oV]
  wtm_at "go"
  cases l with
  | none =>
    have k : Q (.bl (decide (h ≤ (n : Int)))) H := k
    wtm_at "br"
    · intro c
      wtm_at "go"
      refine r_fld ht T.cl_Down T.na_Down_at rfl ?_
      dsimp only [Tk.at_, oV]
      wtm_at "go"
      rw [decide_eq_true c] at k
      exact k
    · intro c
      rw [decide_eq_false c] at k
      exact k
  | some m =>
    have k : Q (.bl (decide (h ≤ (n : Int)) && decide ((n : Int) ≤ m))) H := k
    wtm_at "br"
    · intro c
      wtm_at "go"
      refine r_fld ht T.cl_Down T.na_Down_at rfl ?_
      dsimp only [Tk.at_, oV]
      wtm_at "go"
      refine r_fld ht T.cl_Down T.na_Down_at rfl ?_
      dsimp only [Tk.at_, oV]
      wtm_at "go"
      rw [decide_eq_true c, Bool.true_and] at k
      exact k
    · intro c
      rw [decide_eq_false c, Bool.false_and] at k
      exact k


/-! tokens made -/
theorem sml_of {o : Option Int} (h : ∀ n, o = some n → 0 ≤ n ∧ n ≤ 4 * 10 ^ (39 : Int).toNat) : sml o := fun n e => by
  obtain ⟨h0, h1⟩ := h n e
  have h2 : (4 : Int) * 10 ^ (39 : Int).toNat < 2 ^ 1920 := by decide
  have h3 : n.natAbs < 2 ^ 1920 := by
    generalize (4 : Int) * 10 ^ (39 : Int).toNat = big at h1 h2
    have h4 : ((2 ^ 1920 : Nat) : Int) = 2 ^ 1920 := by decide
    rw [← h4] at h2
    generalize (2 ^ 1920 : Nat) = b2 at h2 ⊢
    omega
  by_cases z : n.natAbs = 0
  · rw [z]; decide
  · exact (Nat.log2_lt z).mpr h3
def Tk.few (t : Tk) : Prop := (∀ n, t.at_ = some n → 0 ≤ n ∧ n ≤ 4 * 10 ^ (39 : Int).toNat) ∧ ∀ n, t.en = some n → 0 ≤ n ∧ n ≤ 4 * 10 ^ (39 : Int).toNat
section
variable {D : Ad} {B H : Hp} {L : List Cell} {Q : VK} {E : XK}
theorem mk_sl {l h : Int} {dvs vs : List V} (e : vs ++ dvs = [.int l, .int h]) (w : W B L H) (o : (Tk.sl l h).ok) (q : ∀ t B' H', Same B B' → IsTk D B' t (Tk.sl l h) → W B' L H' → Q (.ref t) H') : rMk (cBS D) (sp_BySlots_init K D) dvs E Q vs H := by
  intro x dx hx hdx hne
  have w1 := w.newB hdx (.own x)
  have w2 := w1.newL (p := x) (by rw [upd_ne (Ne.symm hne)]; exact hx) (.ins (cBS D) dx [])
  rw [e]
  exact ⟨_, _, _, rfl, x, dx, _, L, rfl, w2, .inl ⟨l, h, rfl, rfl, o, fun H' w3 => ⟨rfl, q x _ _ (same_trans (same_new (w.freeB hdx)) (same_new (w3.out _ (List.mem_cons_self ..)))) ⟨dx, upd_same⟩ w3.give⟩⟩⟩
theorem mk_up {l : Int} {h : Option Int} {dvs vs : List V} (e : vs ++ dvs = [.int l, oV h]) (w : W B L H) (o : (Tk.up l h).ok) (q : ∀ t B' H', Same B B' → IsTk D B' t (Tk.up l h) → W B' L H' → Q (.ref t) H') : rMk D.c_Up (sp_Up_init K D) dvs E Q vs H := by
  intro x dx hx hdx hne
  have w1 := w.newB hdx (.own x)
  have w2 := w1.newL (p := x) (by rw [upd_ne (Ne.symm hne)]; exact hx) (.ins D.c_Up dx [])
  rw [e]
  exact ⟨_, _, _, rfl, x, dx, _, L, rfl, w2, .inl ⟨l, h, rfl, rfl, o, fun H' w3 => ⟨rfl, q x _ _ (same_trans (same_new (w.freeB hdx)) (same_new (w3.out _ (List.mem_cons_self ..)))) ⟨dx, upd_same⟩ w3.give⟩⟩⟩
theorem mk_dn {l : Option Int} {h : Int} {dvs vs : List V} (e : vs ++ dvs = [oV l, .int h]) (w : W B L H) (o : (Tk.dn l h).ok) (q : ∀ t B' H', Same B B' → IsTk D B' t (Tk.dn l h) → W B' L H' → Q (.ref t) H') : rMk D.c_Down (sp_Down_init K D) dvs E Q vs H := by
  intro x dx hx hdx hne
  have w1 := w.newB hdx (.own x)
  have w2 := w1.newL (p := x) (by rw [upd_ne (Ne.symm hne)]; exact hx) (.ins D.c_Down dx [])
  rw [e]
  exact ⟨_, _, _, rfl, x, dx, _, L, rfl, w2, .inl ⟨l, h, rfl, rfl, o, fun H' w3 => ⟨rfl, q x _ _ (same_trans (same_new (w.freeB hdx)) (same_new (w3.out _ (List.mem_cons_self ..)))) ⟨dx, upd_same⟩ w3.give⟩⟩⟩
end

theorem goP_sub {ht : Kv} {m k : Int} (hm : m ∈ ksP ht) (h : k ∈ ksP (goP ht m)) : k ∈ ksP ht := by
  unfold goP at h
  split at h
  · rw [ksP_del] at h
    exact (List.mem_filter.mp h).1
  · rw [ksP_put_old hm] at h
    exact h
theorem hoP_sub {ht : Kv} {m k : Int} (h : k ∈ ksP (hoP ht m)) : k = m ∨ k ∈ ksP ht := by
  unfold hoP at h
  by_cases c : m ∈ ksP ht
  · rw [ksP_put_old c] at h
    exact .inr h
  · rw [ksP_put_new c] at h
    exact (List.mem_append.mp h).elim .inr fun h => .inl (List.mem_singleton.mp h)
theorem mnP_ge {ht : Kv} {now fl : Int} (h1 : ∀ m ∈ ksP ht, fl ≤ m) (h2 : fl ≤ now) : fl ≤ mnP ht now := by
  unfold mnP
  cases e : srt (ksP ht) with
  | nil => exact h2
  | cons x r => exact h1 x ((srt_perm _).mem_iff.mp (by rw [e]; exact List.mem_cons_self ..))
theorem mnP_le {ht : Kv} {now : Int} : ∀ m ∈ ksP ht, mnP ht now ≤ m := fun m hm => by
  have hm := (srt_perm _).mem_iff.mpr hm
  have so := srt_sorted (ksP ht)
  unfold mnP
  cases e : srt (ksP ht) with
  | nil => rw [e] at hm; cases hm
  | cons x r =>
    rw [e] at hm so
    show x ≤ m
    rcases List.mem_cons.mp hm with h | h
    · omega
    · exact (List.pairwise_cons.mp so).1 m h


def sp__law_cell_at (K : PySem.W.Frag) (_ : Ad) : Sp := Sp2 fun x y H Q _ => ∃ (a : Addr) (ns : List Int) (i : Nat), x = .ref a ∧ y = .int i ∧ SqL K H a (ns.map V.int) ∧ Q (.int (ns.getD i 0)) H
theorem ok__law_cell_at {D : Ad} (T : Txt K mg D) : FnOk P w K mg base (L2.CX P w) 1 D.a__law_cell_at D.d__law_cell_at ["_law_script", "_law_k"] (sp__law_cell_at K D) := by
  refine T.F__law_cell_at.okX sc__law_cell_at (fun vs H Q E h => sp2_len h) (fun cdv A outer s H vs Q E hr h => ⟨_, (pss_cons (ps_if (pt_cmpR op_lt (pv 1) (pe_callB call_lenZ (by rfl) T.n_len bt_len (pa_cons (pv 0) pa_nil)) (nomark _))
      (pss_one (ps_ret (pe_ix ix_list (pv 0) (pv 1) (fun _ _ => rfl))))
      pss_nil)
    (pss_one (ps_ret pe_int))), ?_⟩)
  obtain ⟨x0, x1, rfl, h⟩ := h
  rw [show L2.start n__law_cell_at [x0, x1] = [some x0, some x1] from rfl]
  try dsimp only [cxOf]
  obtain ⟨a, ns, i, rfl, rfl, hS, k⟩ := h
  wtm_at "go"
  refine r_lenL hS ?_
  wtm_at "go"
  rw [List.length_map]
  refine br (fun h => ?_) (fun h => ?_)
  · wtm_at "go"
    have hi : i < ns.length := by omega
    refine r_ixL (v := .int (ns.getD i 0)) hS ?_ k
    rw [atI_nat' (by omega) (by rw [List.length_map]; exact h), Int.toNat_natCast, List.getElem?_map, List.getD_eq_getElem?_getD, List.getElem?_eq_getElem hi]
    rfl
  · wtm_at "go"
    have hi : ns.length ≤ i := by omega
    rw [List.getD_eq_getElem?_getD, List.getElem?_eq_none hi] at k
    exact k


section
variable {D : Ad} {H : Hp} {Q : VK} {E : XK}
theorem c_cell {a : Addr} {ns : List Int} {i : Nat} (h : SqL K H a (ns.map V.int)) (q : Q (.int (ns.getD i 0)) H) : sp__law_cell_at K D ([.ref a, .int (i : Nat)] ++ []) H Q E := ⟨_, _, rfl, a, ns, i, rfl, rfl, h, q⟩
theorem c_cell0 {a : Addr} {ns : List Int} (h : SqL K H a (ns.map V.int)) (q : Q (.int (ns.getD 0 0)) H) : sp__law_cell_at K D ([.ref a, .int 0] ++ []) H Q E := c_cell (i := 0) h q
theorem c_cell1 {a : Addr} {ns : List Int} (h : SqL K H a (ns.map V.int)) (q : Q (.int (ns.getD 1 0)) H) : sp__law_cell_at K D ([.ref a, .int 1] ++ []) H Q E := c_cell (i := 1) h q
theorem c_cell2 {a : Addr} {ns : List Int} (h : SqL K H a (ns.map V.int)) (q : Q (.int (ns.getD 2 0)) H) : sp__law_cell_at K D ([.ref a, .int 2] ++ []) H Q E := c_cell (i := 2) h q
theorem c_cell3 {a : Addr} {ns : List Int} (h : SqL K H a (ns.map V.int)) (q : Q (.int (ns.getD 3 0)) H) : sp__law_cell_at K D ([.ref a, .int 3] ++ []) H Q E := c_cell (i := 3) h q
theorem c_cell4 {a : Addr} {ns : List Int} (h : SqL K H a (ns.map V.int)) (q : Q (.int (ns.getD 4 0)) H) : sp__law_cell_at K D ([.ref a, .int 4] ++ []) H Q E := c_cell (i := 4) h q
theorem c_cell9 {a : Addr} {ns : List Int} (h : SqL K H a (ns.map V.int)) (q : Q (.int (ns.getD 9 0)) H) : sp__law_cell_at K D ([.ref a, .int 9] ++ []) H Q E := c_cell (i := 9) h q
end
local macro_rules | `(tactic| wtm_at "s0") => `(tactic| first
  | ((with_reducible refine' c_cell0 ?gvE ?gvH); (case gvE => wtm_at "sq"))
  | ((with_reducible refine' c_cell1 ?gvE ?gvH); (case gvE => wtm_at "sq"))
  | ((with_reducible refine' c_cell2 ?gvE ?gvH); (case gvE => wtm_at "sq"))
  | ((with_reducible refine' c_cell3 ?gvE ?gvH); (case gvE => wtm_at "sq"))
  | ((with_reducible refine' c_cell4 ?gvE ?gvH); (case gvE => wtm_at "sq"))
  | ((with_reducible refine' c_cell9 ?gvE ?gvH); (case gvE => wtm_at "sq")))


local macro_rules | `(tactic| wtm_at "s0") => `(tactic| first | with_reducible refine g_tryM2 ?_)
/-! draws -/
def drG (c k : Int) : Int := if c % 2 = 1 then c / 2 ^ (20 * k + 1).toNat % 1048576 else
  ((c + 7919 * k + 1) * 48271 % 2147483647 * ((c + 7919 * k + 1) * 48271 % 2147483647 / 1009 + 69621) % 2147483647 + 31 * k + 1) * ((c + 7919 * k + 1) * 48271 % 2147483647 * ((c + 7919 * k + 1) * 48271 % 2147483647 / 1009 + 69621) % 2147483647 / 757 + 16807) % 2147483629
theorem drG_nn (c k : Int) : 0 ≤ drG c k := by
  unfold drG
  split
  · exact Int.emod_nonneg _ (by decide)
  · exact Int.emod_nonneg _ (by decide)
def sp__law_drawn (_ : PySem.W.Frag) (_ : Ad) : Sp := Sp2 fun x y H Q _ => ∃ (c k : Int), x = .int c ∧ y = .int k ∧ 0 ≤ k ∧ Q (.int (drG c k)) H
theorem ok__law_drawn {D : Ad} (T : Txt K mg D) : FnOk P w K mg base (L2.CX P w) 1 D.a__law_drawn D.d__law_drawn ["_law_cell", "_law_k"] (sp__law_drawn K D) := by
  refine T.F__law_drawn.okX sc__law_drawn (fun vs H Q E h => sp2_len h) (fun cdv A outer s H vs Q E hr h => ⟨_, (pss_cons (ps_if (pt_cmpR op_eq (pe_op op_mod (pv 0) pe_int) pe_int (nomark _))
      (pss_one (ps_ret (pe_op op_mod (pe_op op_shr (pv 0) (pe_op op_add (pe_op op_mul pe_int (pv 1)) pe_int)) pe_int)))
      pss_nil)
    (pss_cons (ps_set (i := 2) sc__law_drawn.nd rfl (Or.inl rfl) (pe_op op_mod (pe_op op_mul (pe_op op_add (pe_op op_add (pv 0) (pe_op op_mul pe_int (pv 1))) pe_int) pe_int) pe_int))
    (pss_cons (ps_set (i := 2) sc__law_drawn.nd rfl (Or.inl rfl) (pe_op op_mod (pe_op op_mul (pv 2) (pe_op op_add (pe_op op_fdiv (pv 2) pe_int) pe_int)) pe_int))
    (pss_one (ps_ret (pe_op op_mod (pe_op op_mul (pe_op op_add (pe_op op_add (pv 2) (pe_op op_mul pe_int (pv 1))) pe_int) (pe_op op_add (pe_op op_fdiv (pv 2) pe_int) pe_int)) pe_int)))))), ?_⟩)
  obtain ⟨x0, x1, rfl, h⟩ := h
  rw [show L2.start n__law_drawn [x0, x1] = [some x0, some x1, none] from rfl]
  try dsimp only [cxOf]
  obtain ⟨c, i, rfl, rfl, h0, k⟩ := h
  wtm_at "go"
  unfold drG at k
  by_cases c1 : c % 2 = 1
  · rw [if_pos c1] at k
    wtm_at "go"
    exact k
  · rw [if_neg c1] at k
    wtm_at "go"
    exact k

theorem getP_putO (kv : Kv) (k v k' : Int) : getP (putP kv k v) k' = if k' = k then some v else getP kv k' := by
  split
  · rename_i c
    rw [c, getP_put]
  · rename_i c
    unfold putP
    split
    · unfold getP
      rw [List.find?_map]
      have e : ((fun p : Int × Int => decide (p.1 = k')) ∘ fun p => if p.1 = k then (p.1, v) else p) = fun p => decide (p.1 = k') := by
        funext p
        show decide ((if p.1 = k then (p.1, v) else p).1 = k') = decide (p.1 = k')
        split <;> rfl
      rw [e]
      cases e2 : kv.find? fun p => decide (p.1 = k') with
      | none => rfl
      | some p =>
        have hf := List.find?_some e2
        have : p.1 = k' := by simpa using hf
        show some (if p.1 = k then (p.1, v) else p).2 = some p.2
        rw [if_neg (by rw [this]; exact c)]
    · unfold getP
      rw [List.find?_append]
      have : [(k, v)].find? (fun p : Int × Int => decide (p.1 = k')) = none := by
        rw [List.find?_cons_of_neg (by simp; exact fun e => c e.symm)]
        rfl
      rw [this]
      simp
theorem getP_delO (kv : Kv) (k k' : Int) : getP (delP kv k) k' = if k' = k then none else getP kv k' := by
  unfold getP delP
  rw [List.find?_filter]
  split
  · rename_i c
    have hn : (kv.find? fun a => decide (decide (a.1 ≠ k) = true ∧ decide (a.1 = k') = true)) = none := List.find?_eq_none.mpr fun p _ => by subst c; simp
    rw [hn]
    rfl
  · rename_i c
    congr 1
    congr 1
    funext p
    by_cases e : p.1 = k'
    · simp [e, c]
    · simp [e]
/-! the table in order -/
def srtK (kv : Kv) : Kv := (srt (ksP kv)).map fun k => (k, (getP kv k).getD 0)
theorem srtK_ks (kv : Kv) : ksP (srtK kv) = srt (ksP kv) := by
  unfold srtK ksP
  rw [List.map_map]
  exact List.map_id _
theorem srtK_len (kv : Kv) : (srtK kv).length = kv.length := by
  unfold srtK
  rw [List.length_map, (srt_perm _).length_eq, ksP_len]
theorem srtK_mem {kv : Kv} {p : Int × Int} (h : p ∈ srtK kv) : p ∈ kv ∧ getP kv p.1 = some p.2 := by
  unfold srtK at h
  obtain ⟨k, hk, rfl⟩ := List.mem_map.mp h
  obtain ⟨v, hv⟩ := getP_ex ((srt_perm _).mem_iff.mp hk)
  have e : (getP kv k).getD 0 = v := by rw [hv]; rfl
  show (k, (getP kv k).getD 0) ∈ kv ∧ getP kv k = some ((getP kv k).getD 0)
  rw [e]
  exact ⟨getP_mem hv, hv⟩
theorem srtK_up {kv : Kv} (nd : (ksP kv).Nodup) : (srtK kv).Pairwise fun p q => p.1 < q.1 := by
  have h1 : (srt (ksP kv)).Pairwise (· < ·) := by
    have h2 := srt_sorted (ksP kv)
    have h3 : (srt (ksP kv)).Nodup := (srt_perm _).nodup_iff.mpr nd
    refine (h2.and h3).imp fun ⟨a, b⟩ => by omega
  unfold srtK
  exact List.pairwise_map.mpr h1
theorem srtK_perm {kv : Kv} (nd : (ksP kv).Nodup) : (srtK kv).Perm kv := by
  have e : kv = (ksP kv).map fun k => (k, (getP kv k).getD 0) := by
    unfold ksP
    rw [List.map_map]
    conv => lhs; rw [← List.map_id kv]
    refine List.map_congr_left fun x hx => ?_
    show x = (x.1, (getP kv x.1).getD 0)
    rw [getP_some (v := x.2) nd hx]
    rfl
  have h : (srtK kv).Perm ((ksP kv).map fun k => (k, (getP kv k).getD 0)) := (srt_perm _).map _
  rw [← e] at h
  exact h
theorem cutI_take (ks : List Int) (n : Nat) : cutI ks none (some (n : Int)) = ks.take n := by
  unfold cutI
  rw [show HT.sIx ks.length ks.length (some (n : Int)) = min n ks.length from HT.sIx_nat _ _ _, show HT.sIx ks.length 0 none = 0 from rfl, List.drop_zero, Nat.sub_zero]
  by_cases c : n ≤ ks.length
  · rw [Nat.min_eq_left c]
  · rw [Nat.min_eq_right (by omega), List.take_length, List.take_of_length_le (by omega)]
/-! the rows that are due at a moment -/
def dueT (kv : Kv) : Tk → Kv
  | .dn l e => ((srtK kv).filter fun p => (Tk.dn l e).holds p.1.toNat).reverse
  | t => (srtK kv).filter fun p => t.holds p.1.toNat
def behT (k : Int) : Tk → Tk
  | .dn _ e => .dn (some (k - 1)) e
  | .up _ e => .up (k + 1) e
  | t => t
def isUD : Tk → Prop
  | .sl _ _ => False
  | _ => True
/-- what the makes tell of a moment is the table kv -/
structure Pm (h : Hh) (m : Int) (kv : Kv) : Prop where
  va : ∀ k, vaM (mkM h.ls k) m = getP kv k
  nd : (ksP kv).Nodup
  nn : ∀ k ∈ ksP kv, 0 ≤ k
theorem Pm.all {h : Hh} {m : Int} {kv : Kv} (i : Pm h m kv) (nd : (ksM h.ls).Nodup) : allK h.ls m = srt (ksP kv) := by
  refine srt_uniq ?_ (allK_so _ _)
  refine (List.perm_ext_iff_of_nodup (allK_nd nd m) i.nd).mpr fun k => ?_
  rw [allK_mem, i.va, getP_isSome, decide_eq_true_eq]
theorem Pm.row {h : Hh} {m : Int} {kv : Kv} (i : Pm h m kv) (ks : List Int) : rowK h.ls m ks = ks.map fun k => (k, (getP kv k).getD 0) := by
  unfold rowK
  exact List.map_congr_left fun k _ => by rw [i.va]
def dueK (kv : Kv) : Tk → List Int
  | .dn l e => ((srt (ksP kv)).filter fun k => (Tk.dn l e).holds k.toNat).reverse
  | t => (srt (ksP kv)).filter fun k => t.holds k.toNat
theorem due_row (kv : Kv) (t : Tk) : (dueK kv t).map (fun k => (k, (getP kv k).getD 0)) = dueT kv t := by
  have e : ∀ P : Int → Bool, ((srt (ksP kv)).filter P).map (fun k => (k, (getP kv k).getD 0)) = (srtK kv).filter fun p => P p.1 := fun P => by
    unfold srtK
    rw [List.filter_map]
    rfl
  cases t with
  | sl l h => exact e _
  | up l h => exact e _
  | dn l h => show (List.reverse _).map _ = List.reverse _; rw [List.map_reverse, e]
theorem dueK_mem {kv : Kv} {t : Tk} {k : Int} (h : k ∈ dueK kv t) : k ∈ ksP kv ∧ t.holds k.toNat = true := by
  cases t with
  | sl l h2 => exact ⟨(srt_perm _).mem_iff.mp (List.mem_filter.mp h).1, (List.mem_filter.mp h).2⟩
  | up l h2 => exact ⟨(srt_perm _).mem_iff.mp (List.mem_filter.mp h).1, (List.mem_filter.mp h).2⟩
  | dn l h2 => exact ⟨(srt_perm _).mem_iff.mp (List.mem_filter.mp (List.mem_reverse.mp h)).1, (List.mem_filter.mp (List.mem_reverse.mp h)).2⟩
theorem dueK_len (kv : Kv) (t : Tk) : (dueK kv t).length ≤ kv.length := by
  have e : (srt (ksP kv)).length = kv.length := by rw [(srt_perm _).length_eq, ksP_len]
  cases t with
  | sl l h => exact Nat.le_trans (List.length_filter_le _ _) (Nat.le_of_eq e)
  | up l h => exact Nat.le_trans (List.length_filter_le _ _) (Nat.le_of_eq e)
  | dn l h => exact Nat.le_trans (Nat.le_of_eq (List.length_reverse ..)) (Nat.le_trans (List.length_filter_le _ _) (Nat.le_of_eq e))
def sp_behind (K : PySem.W.Frag) (D : Ad) : Sp := Sp2 fun x y H Q _ => ∃ (tk : Addr) (t : Tk) (key : Int) (B : Hp) (L : List Cell), x = .ref tk ∧ y = .int key ∧ isUD t ∧ (behT key t).ok ∧ W B L H ∧ IsTk D B tk t ∧ ∀ (v : Addr) B' H', Same B B' → IsTk D B' v (behT key t) → W B' L H' → Q (.ref v) H'
theorem ok_behind {D : Ad} (T : Txt K mg D) : FnOk P w K mg base (L2.CX P w) 6 D.a_behind D.d_behind ["token", "key"] (sp_behind K D) := by
  refine T.F_behind.okX sc_behind (fun vs H Q E h => sp2_len h) (fun cdv A outer s H vs Q E hr h => ⟨_, (pss_cons (ps_if (pt_val (pe_callB call_isi (by rfl) T.n_isinstance bt_isinstance (pa_cons (pv 0) (pa_cons (pe_glob (v := .ref D.c_Down) rfl T.g_Down rfl) pa_nil))))
      (pss_one (ps_ret (pe_make T.mk_Down (ok_Down_init T) (hr.mono (by decide)) rfl T.g_Down T.b_Down_init .nil pX (pa_cons (pe_op op_sub (pv 1) pe_int) (pa_cons (pe_fld (pv 0) rfl) pa_nil)))))
      pss_nil)
    (pss_one (ps_ret (pe_make T.mk_Up (ok_Up_init T) (hr.mono (by decide)) rfl T.g_Up T.b_Up_init .nil pX (pa_cons (pe_op op_add (pv 1) pe_int) (pa_cons (pe_fld (pv 0) rfl) pa_nil)))))), ?_⟩)
  obtain ⟨x0, x1, rfl, h⟩ := h
  rw [show L2.start n_behind [x0, x1] = [some x0, some x1] from rfl]
  try dsimp only [cxOf]
  obtain ⟨tk, t, key, B, L, rfl, rfl, hu, hok, w, ⟨dxt, ht⟩, k⟩ := h
  cases t with
  | sl l h => exact hu.elim
  | up l h =>
    wtm_at "go"
    refine r_isiO (w.rd ht) T.ic_Up T.ic_Down T.sb_Up_Down ?_
    wtm_at "go"
    refine r_fld (w.rd ht) T.cl_Up T.na_Up_end rfl ?_
    wtm_at "go"
    exact mk_up (l := key + 1) (h := h) rfl w hok fun tk B6 H6 s6 itk w => k _ _ _ s6 itk w
  | dn l h =>
    wtm_at "go"
    refine r_isiO (w.rd ht) T.ic_Down T.ic_Down T.sb_Down_Down ?_
    wtm_at "go"
    refine r_fld (w.rd ht) T.cl_Down T.na_Down_end rfl ?_
    wtm_at "go"
    exact mk_dn (l := some (key - 1)) (h := h) rfl w hok fun tk B6 H6 s6 itk w => k _ _ _ s6 itk w

theorem atI_getD {xs : List Int} {i : Nat} (h : i < xs.length) : atI (xs.map V.int) (i : Int) = some (.int (xs.getD i 0)) := by
  rw [atI_nat' (by omega) (by rw [List.length_map]; omega), List.getElem?_map, Int.toNat_natCast, List.getD_eq_getElem?_getD, List.getElem?_eq_getElem h]
  rfl
theorem holds_up {l : Int} {e : Option Int} {n : Int} (h : (Tk.up l e).holds n.toNat = true) (h0 : 0 ≤ n) : l ≤ n ∧ ∀ m, e = some m → n < m := by
  have en : ((n.toNat : Nat) : Int) = n := Int.toNat_of_nonneg h0
  cases e with
  | none =>
    have h : decide (l ≤ ((n.toNat : Nat) : Int)) = true := h
    rw [en] at h
    exact ⟨of_decide_eq_true h, nofun⟩
  | some m =>
    have h : (decide (l ≤ ((n.toNat : Nat) : Int)) && decide (((n.toNat : Nat) : Int) < m)) = true := h
    rw [en] at h
    obtain ⟨h1, h2⟩ := Bool.and_eq_true_iff.mp h
    exact ⟨of_decide_eq_true h1, fun m' e => by cases e; exact of_decide_eq_true h2⟩
theorem holds_dn {l : Option Int} {e : Int} {n : Int} (h : (Tk.dn l e).holds n.toNat = true) (h0 : 0 ≤ n) : e ≤ n ∧ ∀ m, l = some m → n ≤ m := by
  have en : ((n.toNat : Nat) : Int) = n := Int.toNat_of_nonneg h0
  cases l with
  | none =>
    have h : decide (e ≤ ((n.toNat : Nat) : Int)) = true := h
    rw [en] at h
    exact ⟨of_decide_eq_true h, nofun⟩
  | some m =>
    have h : (decide (e ≤ ((n.toNat : Nat) : Int)) && decide (((n.toNat : Nat) : Int) ≤ m)) = true := h
    rw [en] at h
    obtain ⟨h1, h2⟩ := Bool.and_eq_true_iff.mp h
    exact ⟨of_decide_eq_true h1, fun m' e => by cases e; exact of_decide_eq_true h2⟩
theorem srt_lt {xs : List Int} (nd : xs.Nodup) : (srt xs).Pairwise (· < ·) :=
  ((srt_sorted xs).and ((srt_perm xs).nodup_iff.mpr nd)).imp fun {a b} h => by
    have h1 : a ≤ b := h.1
    have h2 : a ≠ b := h.2
    omega
theorem up_holds {l : Int} {e : Option Int} {n : Int} (h0 : 0 ≤ n) (h1 : l ≤ n) (h2 : ∀ m, e = some m → n < m) : (Tk.up l e).holds n.toNat = true := by
  have en : ((n.toNat : Nat) : Int) = n := Int.toNat_of_nonneg h0
  cases e with
  | none =>
    show decide (l ≤ ((n.toNat : Nat) : Int)) = true
    rw [en]; exact decide_eq_true h1
  | some m =>
    show (decide (l ≤ ((n.toNat : Nat) : Int)) && decide (((n.toNat : Nat) : Int) < m)) = true
    rw [en]; exact Bool.and_eq_true_iff.mpr ⟨decide_eq_true h1, decide_eq_true (h2 m rfl)⟩
theorem dn_holds {l : Option Int} {e : Int} {n : Int} (h0 : 0 ≤ n) (h1 : e ≤ n) (h2 : ∀ m, l = some m → n ≤ m) : (Tk.dn l e).holds n.toNat = true := by
  have en : ((n.toNat : Nat) : Int) = n := Int.toNat_of_nonneg h0
  cases l with
  | none =>
    show decide (e ≤ ((n.toNat : Nat) : Int)) = true
    rw [en]; exact decide_eq_true h1
  | some m =>
    show (decide (e ≤ ((n.toNat : Nat) : Int)) && decide (((n.toNat : Nat) : Int) ≤ m)) = true
    rw [en]; exact Bool.and_eq_true_iff.mpr ⟨decide_eq_true h1, decide_eq_true (h2 m rfl)⟩
theorem getD_at {A : List Int} {i : Nat} (h : i < A.length) : A.getD i 0 = A[i] := by
  rw [List.getD_eq_getElem?_getD, List.getElem?_eq_getElem h]
  rfl
theorem beh_ok {kv : Kv} {t : Tk} {many : Nat} (nd : (ksP kv).Nodup) (nn : ∀ k ∈ ksP kv, 0 ≤ k) (ok : t.ok) (ud : isUD t) (h1 : 1 ≤ many) (h2 : many < (dueK kv t).length) : (behT ((dueK kv t).getD (many - 1) 0) t).ok := by
  have hs := srt_lt nd
  rw [getD_at (by omega)]
  have hx := dueK_mem (List.getElem_mem (show many - 1 < (dueK kv t).length by omega))
  have hy := dueK_mem (List.getElem_mem h2)
  cases t with
  | sl l h => exact ud.elim
  | up l e =>
    have hp : (dueK kv (.up l e)).Pairwise (· < ·) := hs.sublist List.filter_sublist
    have hxy := List.pairwise_iff_getElem.mp hp (many - 1) many (by omega) h2 (by omega)
    have b := holds_up hy.2 (nn _ hy.1)
    have x0 := nn _ hx.1
    refine ⟨by omega, fun n hn => ?_⟩
    have := b.2 n hn
    omega
  | dn l e =>
    have hp : (dueK kv (.dn l e)).Pairwise (fun x y => y < x) := List.pairwise_reverse.mpr (hs.sublist List.filter_sublist)
    have hxy := List.pairwise_iff_getElem.mp hp (many - 1) many (by omega) h2 (by omega)
    have b := holds_dn hy.2 (nn _ hy.1)
    refine ⟨ok.1, fun n hn => ?_⟩
    cases hn
    have := b.1
    omega
theorem drop_filter {F : List Int} {R : Int → Int → Prop} [DecidableRel R] (hp : F.Pairwise R) (irr : ∀ a, ¬ R a a) (asy : ∀ a b, R a b → ¬ R b a) {m : Nat} {x : Int} (h1 : 1 ≤ m) (h2 : F[m - 1]? = some x) : F.filter (fun a => decide (R x a)) = F.drop m := by
  obtain ⟨g1, g2⟩ := List.getElem?_eq_some_iff.mp h2
  have e : F.filter (fun a => decide (R x a)) = (F.take m ++ F.drop m).filter fun a => decide (R x a) := by rw [List.take_append_drop]
  rw [e, List.filter_append]
  have e1 : (F.take m).filter (fun a => decide (R x a)) = [] := List.filter_eq_nil_iff.mpr fun a ha hr => by
    have hr := of_decide_eq_true hr
    obtain ⟨j, hj⟩ := List.getElem?_of_mem ha
    have hjl := (List.getElem?_eq_some_iff.mp hj).1
    rw [List.length_take] at hjl
    rw [List.getElem?_take_of_lt (by omega)] at hj
    obtain ⟨g3, g4⟩ := List.getElem?_eq_some_iff.mp hj
    by_cases ej : j = m - 1
    · subst ej
      rw [g4] at g2
      rw [g2] at hr
      exact irr _ hr
    · have := List.pairwise_iff_getElem.mp hp j (m - 1) g3 g1 (by omega)
      rw [g4, g2] at this
      exact asy _ _ this hr
  have e2 : (F.drop m).filter (fun a => decide (R x a)) = F.drop m := List.filter_eq_self.mpr fun a ha => by
    obtain ⟨j, hj⟩ := List.getElem?_of_mem ha
    rw [List.getElem?_drop] at hj
    obtain ⟨g3, g4⟩ := List.getElem?_eq_some_iff.mp hj
    have := List.pairwise_iff_getElem.mp hp (m - 1) (m + j) g1 g3 (by omega)
    rw [g4, g2] at this
    exact decide_eq_true this
  rw [e1, e2]
  rfl
theorem due_next {kv : Kv} {t : Tk} {many : Nat} (nd : (ksP kv).Nodup) (nn : ∀ k ∈ ksP kv, 0 ≤ k) (ud : isUD t) (h1 : 1 ≤ many) (h2 : many < (dueK kv t).length) : dueK kv (behT ((dueK kv t).getD (many - 1) 0) t) = (dueK kv t).drop many := by
  have hs := srt_lt nd
  have hl : many - 1 < (dueK kv t).length := by omega
  rw [getD_at hl]
  have hx := dueK_mem (List.getElem_mem hl)
  have hg : (dueK kv t)[many - 1]? = some (dueK kv t)[many - 1] := List.getElem?_eq_getElem hl
  generalize (dueK kv t)[many - 1] = x at *
  have x0 := nn _ hx.1
  cases t with
  | sl l h => exact ud.elim
  | up l e =>
    have hp : (dueK kv (.up l e)).Pairwise (· < ·) := hs.sublist List.filter_sublist
    rw [← drop_filter hp (fun a => by omega) (fun a b h => by omega) h1 hg]
    show (srt (ksP kv)).filter _ = List.filter _ ((srt (ksP kv)).filter _)
    rw [List.filter_filter]
    refine List.filter_congr fun a ha => ?_
    have a0 := nn a ((srt_perm _).mem_iff.mp ha)
    have hxh := holds_up hx.2 x0
    rw [Bool.eq_iff_iff]
    constructor
    · intro h
      have h := holds_up h a0
      exact Bool.and_eq_true_iff.mpr ⟨decide_eq_true (by omega), up_holds a0 (by omega) h.2⟩
    · intro h
      obtain ⟨h1, h2⟩ := Bool.and_eq_true_iff.mp h
      have h1 := of_decide_eq_true h1
      exact up_holds a0 (by omega) (holds_up h2 a0).2
  | dn l e =>
    have hp : (dueK kv (.dn l e)).Pairwise (fun x y => y < x) := List.pairwise_reverse.mpr (hs.sublist List.filter_sublist)
    rw [← drop_filter hp (fun a => by omega) (fun a b h => by omega) h1 hg]
    show ((srt (ksP kv)).filter _).reverse = List.filter _ ((srt (ksP kv)).filter _).reverse
    rw [List.filter_reverse, List.filter_filter]
    refine congrArg List.reverse (List.filter_congr fun a ha => ?_)
    have a0 := nn a ((srt_perm _).mem_iff.mp ha)
    have hxh := holds_dn hx.2 x0
    rw [Bool.eq_iff_iff]
    constructor
    · intro h
      have h := holds_dn h a0
      have h3 := h.2 (x - 1) rfl
      exact Bool.and_eq_true_iff.mpr ⟨decide_eq_true (by omega), dn_holds a0 h.1 fun m hm => by have := hxh.2 m hm; omega⟩
    · intro h
      obtain ⟨h1, h2⟩ := Bool.and_eq_true_iff.mp h
      have h1 := of_decide_eq_true h1
      exact dn_holds a0 (holds_dn h2 a0).1 fun m hm => by cases hm; omega
theorem none_of {B B' : Hp} {q : Addr} (s : Same B B') (h : B' q = none) : B q = none := by
  cases e : B q with
  | none => rfl
  | some u => rw [s _ _ e] at h; cases h
/-! what stayed is owned from now on -/
def delH (B : Hp) (q : Addr) : Hp := fun b => if b = q then none else B b
theorem delH_ne {B : Hp} {q b : Addr} (h : b ≠ q) : delH B q b = B b := if_neg h
theorem delH_same {B B' : Hp} {q : Addr} (s : Same B B') (h : B q = none) : Same B (delH B' q) := fun b o e => by
  have hne : b ≠ q := fun e2 => by rw [e2, h] at e; cases e
  rw [delH_ne hne]
  exact s _ _ e
theorem W.take {B H : Hp} {L : List Cell} {q : Addr} {o : HO} (w : W B L H) (e : B q = some o) : W (delH B q) ((q, o) :: L) H := by
  refine ⟨fun b u h => ?_, fun c hc => ?_, List.nodup_cons.mpr ⟨fun hm => ?_, w.nd⟩, fun c hc => ?_⟩
  · unfold delH at h
    split at h
    · cases h
    · exact w.sub _ _ h
  · rcases List.mem_cons.mp hc with rfl | hc
    · exact w.sub _ _ e
    · exact w.has c hc
  · obtain ⟨c, hc, rfl⟩ := List.mem_map.mp hm
    rw [w.out c hc] at e
    cases e
  · rcases List.mem_cons.mp hc with rfl | hc
    · exact if_pos rfl
    · by_cases h : c.1 = q
      · exact if_pos h
      · rw [delH_ne h]; exact w.out c hc
theorem TP.del {B : Hp} {ts : List Addr} {ps : Kv} {q : Addr} {xs : List V} (h : TP B ts ps) (e : B q = some (.lst xs)) : TP (delH B q) ts ps := by
  have hne : ∀ t ∈ ts, t ≠ q := fun t ht e2 => by
    have := h.all t ht
    rw [e2, e] at this
    cases this
  have hp : ∀ t ∈ ts, prT (delH B q) t = prT B t := fun t ht => by
    rw [prT_of (h.all t ht), prT_of (by rw [delH_ne (hne t ht)]; exact h.all t ht)]
  exact ⟨fun t ht => by rw [delH_ne (hne t ht), hp t ht]; exact h.all t ht, by rw [h.eq]; exact List.map_congr_left fun t ht => (hp t ht).symm⟩
theorem IsTk.del {D : Ad} {B : Hp} {q v : Addr} {t : Tk} {xs : List V} (h : IsTk D B v t) (e : B q = some (.lst xs)) : IsTk D (delH B q) v t := by
  obtain ⟨dx, h⟩ := h
  refine ⟨dx, ?_⟩
  rw [delH_ne (fun e2 => by rw [e2, e] at h; cases h)]
  exact h
theorem Ho.take {D : Ad} {B B' H H' : Hp} {L : List Cell} {a q : Addr} {h : Hh} {o : HO} (ho : Ho D B H L a h) (ho' : Ho D B' H' L a h) (s : Same B B') (hq : B q = none) (e : B' q = some o) : Ho D (delH B' q) H' ((q, o) :: L) a h := by
  obtain ⟨⟨_, sw⟩, si, lb, li, lp, mb, pb⟩ := ho
  obtain ⟨⟨dx, sw'⟩, _⟩ := ho'
  obtain ⟨dxs, w⟩ := sw'.w
  have s2 := delH_same s hq
  refine ⟨⟨dx, ⟨sw.ob.mono s2, fun b e => (sw.yb b e).mono s2, dxs, (W.take w e).perm ?_⟩⟩, si, lb.mono s2, li, lp, mb.mono s2, fun t ht => s2 _ _ (pb t ht)⟩
  generalize slC D h.sl dxs h.s (h.kv.length : Nat) = S
  have e1 : S ++ (a, h.o D dx) :: (h.L ++ L) = (S ++ (a, h.o D dx) :: h.L) ++ L := by rw [List.append_assoc]; rfl
  have e2 : S ++ (a, h.o D dx) :: (h.L ++ (q, o) :: L) = (S ++ (a, h.o D dx) :: h.L) ++ (q, o) :: L := by rw [List.append_assoc]; rfl
  rw [e1, e2]
  exact List.perm_middle.symm
def sp_House_page_at (K : PySem.W.Frag) (D : Ad) : Sp := Sp4 fun x y z u H Q E => ∃ (a tk : Addr) (h : Hh) (m : Int) (many n : Nat) (B : Hp) (L : List Cell), x = .ref a ∧ y = .int m ∧ z = .ref tk ∧ u = .int many ∧ 1 ≤ many ∧ Ho D B H L a h ∧ h.le n ∧ n < 9000 ∧
  ((h.floor ≤ m ∧ m ≤ h.now ∧ ∃ (t : Tk) (kv : Kv), IsTk D B tk t ∧ isUD t ∧ t.ok ∧ Pm h m kv ∧ (∀ k ∈ ksM h.ls, 0 ≤ k) ∧
    ∀ (p q : Addr) (x : V) (ts : List Addr) (B' H' : Hp), Same B B' → Ho D B' H' L a h → B q = none → B' p = some (.tup [.ref q, x]) → B' q = some (.lst (ts.map V.ref)) → TP B' ts ((dueT kv t).take many) →
      (((dueT kv t).length ≤ many ∧ x = .non) ∨ (many < (dueT kv t).length ∧ ∃ v, x = .ref v ∧ (behT ((dueK kv t).getD (many - 1) 0) t).ok ∧ IsTk D B' v (behT ((dueK kv t).getD (many - 1) 0) t))) → Q (.ref p) H') ∨ MoE D rz_House_ask_moment H B L a h m E)
theorem ok_House_page_at {D : Ad} (T : Txt K mg D) : FnOk P w K mg base (L2.CX P w) 7 D.a_House_page_at D.d_House_page_at ["self", "moment", "token", "many"] (sp_House_page_at K D) := by
  refine T.F_House_page_at.ok sc_House_page_at (fun vs H Q E h => sp4_len h) (fun cdv A outer s H vs Q E hr h => ⟨_, (pss_cons (ps_expr (pe_meth (pv 0) T.cl_House T.me_House_ask_moment (ok_House_ask_moment T) (hr.mono (by decide)) T.b_House_ask_moment .nil pX (pa_cons (pv 1) pa_nil)))
    (pss_cons (ps_setLc (i := 4) (own := [("key", 6)]) (g := gName 6) rfl sc_House_page_at.nd rfl rfl (sw_true rfl rfl rfl (by decide +kernel)) (pi_list (pe_meth (pe_fld (pv 0) rfl) T.cl_Makes T.me_Makes_all_at (ok_Makes_all_at T) (hr.mono (by decide)) T.b_Makes_all_at .nil pX (pa_cons (pv 1) pa_nil))) (blkOk_by (own := [("key", 6)]) (N := n_House_page_at) (sc := defScope s_House_page_at) (by decide +kernel)) (fun _ _ _ _ _ => (pg_name (i := 6) sc_House_page_at.nd rfl (Or.inl rfl))) (fun _ _ _ _ _ => (pts_one (pt_val (pe_either (pe_meth (sp := sp_Down_holds K D) (k := 1) (pv 2) T.cl_Down T.me_Down_holds (ok_Down_holds T) (hr.mono (j := 1) (by decide)) T.b_Down_holds .nil passF (pa_cons (pv 6) pa_nil)) (pe_meth (sp := sp_Up_holds K D) (k := 1) (pv 2) T.cl_Up T.me_Up_holds (ok_Up_holds T) (hr.mono (j := 1) (by decide)) T.b_Up_holds .nil passF (pa_cons (pv 6) pa_nil)))))) (fun _ _ _ _ _ => (pv 6)))
    (pss_cons (ps_if (pt_val (pe_callB call_isi (by rfl) T.n_isinstance bt_isinstance (pa_cons (pv 2) (pa_cons (pe_glob (v := .ref D.c_Down) rfl T.g_Down rfl) pa_nil))))
      (pss_one (ps_set (i := 4) sc_House_page_at.nd rfl (Or.inl rfl) (pe_revL (pv 4))))
      pss_nil)
    (pss_cons (ps_setLc (i := 5) (own := [("key", 6)]) (g := gName 6) rfl sc_House_page_at.nd rfl rfl (sw_true rfl rfl rfl (by decide +kernel)) (pi_list (pe_slice sl_list (pv 4) po_none (po_some (pv 3)))) (blkOk_by (own := [("key", 6)]) (N := n_House_page_at) (sc := defScope s_House_page_at) (by decide +kernel)) (fun _ _ _ _ _ => (pg_name (i := 6) sc_House_page_at.nd rfl (Or.inl rfl))) (fun _ _ _ _ _ => pts_nil) (fun _ _ _ _ _ => (pe_tup (pa_cons (pv 6) (pa_cons (pe_meth (sp := sp_Makes_value_at K D) (k := 1) (pe_fldK (K := K) (pv 0) rfl rfl) T.cl_Makes T.me_Makes_value_at (ok_Makes_value_at T) (hr.mono (j := 1) (by decide)) T.b_Makes_value_at .nil passF (pa_cons (pv 6) (pa_cons (pv 1) pa_nil))) pa_nil)))))
    (pss_cons (ps_if (pt_cmpR op_le (pe_callB call_lenZ (by rfl) T.n_len bt_len (pa_cons (pv 4) pa_nil)) (pv 3) (nomark _))
      (pss_one (ps_ret (pe_tup (pa_cons (pv 5) (pa_cons pe_non pa_nil)))))
      pss_nil)
    (pss_one (ps_ret (pe_tup (pa_cons (pv 5) (pa_cons (pe_call (ok_behind T) (hr.mono (by decide)) rfl T.g_behind T.F_behind.kp T.b_behind .nil pX (pa_cons (pv 2) (pa_cons (pe_ix ix_list (pv 4) (pe_op op_sub (pv 3) pe_int) (fun _ _ => rfl)) pa_nil))) pa_nil)))))))))), ?_⟩)
  obtain ⟨x0, x1, x2, x3, rfl, h⟩ := h
  rw [show L2.start n_House_page_at [x0, x1, x2, x3] = [some x0, some x1, some x2, some x3, none, none, none] from rfl]
  try dsimp only [cxOf]
  obtain ⟨a, tk, h, m, many, n, B, L, rfl, rfl, rfl, rfl, hm1, ho, hle, hn, hq⟩ := h
  obtain ⟨dx, hoa⟩ := ho.obj
  wtm_at "go"
  refine r_meth hoa rfl ?_
  wtm_at "go"
  rcases hq with ⟨h1, h2, t, kv, ht, hud, hok, pm, hnn, k⟩ | hz
  rotate_left
  · exact ⟨_, _, rfl, a, h, m, B, L, rfl, rfl, ho, .inr hz⟩
  refine ⟨_, _, rfl, a, h, m, B, L, rfl, rfl, ho, .inl ⟨h1, h2, ?_⟩⟩
  have mb := ho.mb
  obtain ⟨A, w, ⟨hb, hc⟩, back⟩ := ho.mv2
  have hll : ∀ k, (mkL h.ls k).length < 10000 := fun k => Nat.lt_of_le_of_lt (hle.2.2.1 k) (by omega)
  have hal : (allK h.ls m).length ≤ 9000 := by
    have h3 := allK_len h.ls m
    have h4 := hle.2.1
    omega
  have hoB : ∀ {B' H'}, Same B B' → W B' A H' → ∃ dx, H' a = some (h.o D dx) := fun s w => (back _ _ s w).obj
  wtm_at "go"
  refine r_fld hoa T.cl_House T.na_House_past rfl ?_
  obtain ⟨dxm, hm⟩ := mb.obj
  wtm_at "go"
  refine r_meth (w.rd hm) rfl ?_
  wtm_at "go"
  refine ⟨_, _, rfl, h.mo, h.bk, h.ls, m, B, A, rfl, rfl, mb, w, hb, hc, hll, by have := hle.2.1; omega, fun q1 B1 H1 s1 w i1 => ?_⟩
  rw [pm.all mb.nd] at i1 hal
  wtm_at "go"
  refine r_il (SqL.of (w.rd i1)) ?_
  intro D1 hD1
  refine LC.list (K := K) w hD1 (SqL.of i1) (szlt (by rw [List.length_map]; omega)) (fun i B acc => acc = ((((srt (ksP kv)).take i).filter fun k => t.holds k.toNat)).map V.int) rfl ?_ ?_
  · rintro i x B2 acc H2 Nx hi s2 w rfl hl1 hl2 hN
    obtain ⟨key, rfl, hkey, hil⟩ := getV hi
    have hk0 : 0 ≤ key := pm.nn key ((srt_perm _).mem_iff.mp (List.mem_of_getElem? hkey))
    obtain ⟨kn, rfl⟩ := Int.eq_ofNat_of_zero_le hk0
    have htk := tk_filter (P := fun k : Int => t.holds k.toNat) hkey
    rw [Int.toNat_natCast] at htk
    obtain ⟨dxt, hit⟩ := (ht.mono s1).mono s2
    wtm_at "go"
    refine ⟨rfl, ?_⟩
    wtm_at "go"
    cases t with
    | sl l h => exact hud.elim
    | up l e =>
      refine Or.inr ?_
      wtm_at "go"
      refine r_meth (w.rd hit) rfl ?_
      wtm_at "go"
      refine ⟨_, _, rfl, tk, l, e, kn, rfl, rfl, ⟨dxt, w.rd hit⟩, ?_⟩
      generalize (Tk.up l e).holds kn = b at *
      cases b with
      | true =>
        wtm_at "go"
        refine r_acc w hl2 fun H5 w => ?_
        refine hN _ _ _ (same_refl _) w ?_ (by rw [List.length_append, List.length_singleton]; omega)
        rw [htk, if_pos rfl, List.map_append]
        rfl
      | false =>
        wtm_at "go"
        refine hN _ _ _ (same_refl _) w ?_ (by omega)
        rw [htk, if_neg Bool.false_ne_true, List.append_nil]
    | dn l e =>
      refine Or.inl ?_
      wtm_at "go"
      refine r_meth (w.rd hit) rfl ?_
      wtm_at "go"
      refine ⟨_, _, rfl, tk, l, e, kn, rfl, rfl, ⟨dxt, w.rd hit⟩, ?_⟩
      generalize (Tk.dn l e).holds kn = b at *
      cases b with
      | true =>
        wtm_at "go"
        refine r_acc w hl2 fun H5 w => ?_
        refine hN _ _ _ (same_refl _) w ?_ (by rw [List.length_append, List.length_singleton]; omega)
        rw [htk, if_pos rfl, List.map_append]
        rfl
      | false =>
        wtm_at "go"
        refine hN _ _ _ (same_refl _) w ?_ (by omega)
        rw [htk, if_neg Bool.false_ne_true, List.append_nil]
  rintro B2 B3 acc H3 s3 _ i3 w rfl hl1
  rw [List.length_map, List.take_length] at i3
  obtain ⟨dxt, hit⟩ := (ht.mono s1).mono s3
  have s13 := same_trans s1 s3
  wtm_at "g0"
  refine g_ifJ (fun σ H' => ∃ (p : Addr) (B' : Hp), σ = [some (.ref a), some (.int m), some (.ref tk), some (.int many), some (.ref p), none, none] ∧ Same B3 B' ∧ B' p = some (.lst ((dueK kv t).map V.int)) ∧ W B' A H') ?_ ?_
  rotate_left
  · intro N hN
    cases t with
    | sl l h => exact hud.elim
    | up l e =>
      wtm_at "go"
      refine r_isiO (w.rd hit) T.ic_Up T.ic_Down T.sb_Up_Down ?_
      wtm_at "go"
      exact hN _ _ ⟨D1, B3, rfl, same_refl _, i3, w⟩
    | dn l e =>
      wtm_at "go"
      refine r_isiO (w.rd hit) T.ic_Down T.ic_Down T.sb_Down_Down ?_
      wtm_at "go"
      refine g_revL ?_
      wtm_at "go"
      refine d_revL w (SqL.of (w.rd i3)) fun p5 B5 H5 hp5 s5 i5 w => ?_
      rw [← List.map_reverse] at i5
      wtm_at "go"
      exact hN _ _ ⟨p5, B5, rfl, s5, i5, w⟩
  rintro σ H4 ⟨p4, B4, rfl, s4, i4, w⟩
  have hdl : (dueK kv t).length ≤ 9000 := by
    have h3 := dueK_len kv t
    have h4 : (srt (ksP kv)).length = kv.length := by rw [(srt_perm _).length_eq, ksP_len]
    omega
  have ed := due_row kv t
  have hdm : ∀ x ∈ dueK kv t, x ∈ ksP kv := fun x hx => (dueK_mem hx).1
  have edl : (dueT kv t).length = (dueK kv t).length := by rw [← ed, List.length_map]
  have s14 := same_trans s13 s4
  wtm_at "go"
  refine d_slL w (SqL.of (w.rd i4)) fun p6 B6 H6 hp6 s6 i6 w => ?_
  rw [cutV_int, cutI_take] at i6
  have i4 := s6 _ _ i4
  have s16 := same_trans s14 s6
  have htl : ((dueK kv t).take many).length ≤ 9000 := by rw [List.length_take]; omega
  wtm_at "go"
  refine r_il (SqL.of (w.rd i6)) ?_
  intro D7 hD7
  have hf7 : B D7 = none := none_of s16 (w.freeB hD7)
  refine LC.list (K := K) w hD7 (SqL.of i6) (szlt (by rw [List.length_map]; omega)) (fun i B acc => ∃ ts : List Addr, acc = ts.map V.ref ∧ TP B ts ((((dueK kv t).take many).take i).map fun k => (k, (getP kv k).getD 0))) ⟨[], rfl, TP.nil⟩ ?_ ?_
  · rintro i x B7 acc H7 Nx hi s7 w ⟨ts, rfl, tp⟩ hl1 hl2 hN
    obtain ⟨key, rfl, hkey, hil⟩ := getV hi
    have hkm := hdm key (List.mem_of_mem_take (List.mem_of_getElem? hkey))
    obtain ⟨v, hv⟩ := getP_ex hkm
    have mb5 := (mb.mono s16).mono s7
    obtain ⟨dx5, hoa5⟩ := hoB (same_trans s16 s7) w.drop1
    obtain ⟨dxm5, hm5⟩ := mb5.obj
    wtm_at "go"
    refine ⟨rfl, ?_⟩
    wtm_at "go"
    refine r_fld hoa5 T.cl_House T.na_House_past rfl ?_
    wtm_at "go"
    refine r_meth (w.rd hm5) rfl ?_
    wtm_at "go"
    refine ⟨_, _, _, rfl, h.mo, h.bk, h.ls, key, m, B7, _, rfl, rfl, rfl, mb5, w, List.mem_cons_of_mem _ hb, fun e he => List.mem_cons_of_mem _ (hc e he), hll, fun B8 H8 s8 w => ?_⟩
    rw [pm.va key, hv]
    dsimp only [oV]
    wtm_at "go"
    refine d_tup w (szl (by simp)) fun pt B9 H9 hpt s9 i9 w => ?_
    refine r_acc w (by rw [List.length_map] at hl2 ⊢; exact hl2) fun H10 w => ?_
    refine hN B9 _ H10 (same_trans s8 s9) w ⟨ts ++ [pt], by rw [List.map_append]; rfl, ?_⟩ (by rw [List.length_append, List.length_singleton]; omega)
    rw [tk_succ hkey, List.map_append, List.map_singleton, hv]
    exact (tp.mono (same_trans s8 s9)).app (TP.one i9)
  rintro B7 B8 acc H8 s8 s8' i8 w ⟨ts, rfl, tp⟩ hl1
  rw [List.length_map, List.take_length, List.map_take, ed] at tp
  have tp := tp.mono s8'
  have i4 := s8 _ _ i4
  have s18 := same_trans s16 s8
  wtm_at "go"
  refine r_lenL (SqL.of (w.rd i4)) ?_
  rw [List.length_map]
  by_cases c : (dueK kv t).length ≤ many
  · have c2 : (((dueK kv t).length : Nat) : Int) ≤ (many : Nat) := by omega
    wtm_at "go"
    refine d_tup w (szl (by simp)) fun p9 B9 H9 hp9 s9 i9 w => ?_
    exact k p9 D7 .non ts B9 H9 (same_trans s18 s9) (back B9 H9 (same_trans s18 s9) w) hf7 i9 (s9 _ _ i8) (tp.mono s9) (.inl ⟨by omega, rfl⟩)
  · have c2 : ¬ (((dueK kv t).length : Nat) : Int) ≤ (many : Nat) := by omega
    wtm_at "go"
    have em1 : (many : Int) - 1 = ((many - 1 : Nat) : Int) := by omega
    have hat := atI_getD (xs := dueK kv t) (i := many - 1) (by omega)
    have hbo := beh_ok pm.nd pm.nn hok hud hm1 (show many < (dueK kv t).length by omega)
    rw [em1]
    refine r_ixL (SqL.of (w.rd i4)) hat ?_
    wtm_at "go"
    refine ⟨_, _, rfl, tk, t, (dueK kv t).getD (many - 1) 0, B8, _, rfl, rfl, hud, hbo, w, ht.mono s18, fun v B9 H9 s9 itv w => ?_⟩
    wtm_at "go"
    refine d_tup w (szl (by simp)) fun p9 B10 H10 hp9 s10 i9 w => ?_
    have s20 := same_trans s9 s10
    exact k p9 D7 (.ref v) ts B10 H10 (same_trans s18 s20) (back B10 H10 (same_trans s18 s20) w) hf7 i9 (s20 _ _ i8) (tp.mono s20) (.inr ⟨by omega, v, rfl, hbo, itv.mono s10⟩)

def sp__law_key (K : PySem.W.Frag) (_ : Ad) : Sp := Sp1 fun x H Q _ => ∃ (c : Int) (B : Hp) (L : List Cell), x = .int c ∧ W B L H ∧ ∀ (v : Int) B' H', Same B B' → W B' L H' → 0 ≤ v → Q (.int v) H'
theorem ok__law_key {D : Ad} (T : Txt K mg D) : FnOk P w K mg base (L2.CX P w) 2 D.a__law_key D.d__law_key ["_law_cell"] (sp__law_key K D) := by
  refine T.F__law_key.okX sc__law_key (fun vs H Q E h => sp1_len h) (fun cdv A outer s H vs Q E hr h => ⟨_, (pss_cons (ps_set (i := 1) sc__law_key.nd rfl (Or.inl rfl) (pe_call (ok__law_drawn T) (hr.mono (by decide)) rfl T.g__law_drawn T.F__law_drawn.kp T.b__law_drawn .nil pX (pa_cons (pv 0) (pa_cons pe_int pa_nil))))
    (pss_cons (ps_set (i := 2) sc__law_key.nd rfl (Or.inl rfl) (pe_op op_mod (pe_call (ok__law_drawn T) (hr.mono (by decide)) rfl T.g__law_drawn T.F__law_drawn.kp T.b__law_drawn .nil pX (pa_cons (pv 0) (pa_cons pe_int pa_nil))) pe_int))
    (pss_one (ps_ret (pe_ix ix_list (pe_lst (pa_cons (pe_op op_mod (pv 1) pe_int) (pa_cons (pe_op op_mod (pv 1) pe_int) (pa_cons (pe_op op_add (pe_op op_mod (pv 1) pe_int) (pe_op op_mul pe_int (pe_op op_mod (pe_op op_fdiv (pv 1) pe_int) pe_int))) (pa_cons (pe_op op_mod (pv 0) (pe_op op_pow pe_int pe_int)) pa_nil))))) (pv 2) (fun _ _ => rfl)))))), ?_⟩)
  obtain ⟨x0, rfl, h⟩ := h
  rw [show L2.start n__law_key [x0] = [some x0, none, none] from rfl]
  try dsimp only [cxOf]
  obtain ⟨c, B, L, rfl, w, k⟩ := h
  wtm_at "go"
  refine ⟨_, _, rfl, c, 1, rfl, rfl, by decide, ?_⟩
  have n1 := drG_nn c 1
  have m1 : 0 ≤ c % 10 ^ (39 : Int).toNat := Int.emod_nonneg _ (by decide)
  generalize drG c 1 = m at *
  wtm_at "go"
  refine ⟨_, _, rfl, c, 2, rfl, rfl, by decide, ?_⟩
  have n2 := drG_nn c 2
  generalize drG c 2 = m2 at *
  wtm_at "go"
  generalize c % 10 ^ (39 : Int).toNat = m9 at *
  refine d_lst w (szl (by simp)) fun p1 B1 H1 hp1 s1 i1 w => ?_
  wtm_at "go"
  obtain ⟨v, hv, e⟩ := atI_ex (ns := [m % 10, m % 61, m % 6 + 65536 * (m / 6 % 5), m9]) (i := m2 % 4) (by omega) (by simp only [List.length_cons, List.length_nil]; omega)
  refine r_ixL (SqL.of (w.rd i1)) e ?_
  refine k v B1 H1 s1 w ?_
  simp only [List.mem_cons, List.not_mem_nil, or_false] at hv
  rcases hv with rfl | rfl | rfl | rfl
  · omega
  · omega
  · omega
  · exact m1

def sp__law_held (_ : PySem.W.Frag) (D : Ad) : Sp := Sp2 fun x y H Q _ => ∃ (tk : Addr) (t : Tk) (n : Nat), x = .ref tk ∧ y = .int n ∧ isUD t ∧ IsTk D H tk t ∧ Q (.bl (t.holds n)) H
theorem ok__law_held {D : Ad} (T : Txt K mg D) : FnOk P w K mg base (L2.CX P w) 1 D.a__law_held D.d__law_held ["_law_token_here", "_law_key_here"] (sp__law_held K D) := by
  refine T.F__law_held.okX sc__law_held (fun vs H Q E h => sp2_len h) (fun cdv A outer s H vs Q E hr h => ⟨_, (pss_cons (ps_if (pt_val (pe_callB call_isi (by rfl) T.n_isinstance bt_isinstance (pa_cons (pv 0) (pa_cons (pe_glob (v := .ref D.c_Up) rfl T.g_Up rfl) pa_nil))))
      (pss_one (ps_ret (pe_and (pe_cmpR op_le (pe_fld (pv 0) rfl) (pv 1) (nomark _)) (pe_one (pe_or (pe_cmpR op_isNo (pe_fld (pv 0) rfl) pe_non (nomark _)) (pe_one (pe_cmpR op_lt (pv 1) (pe_fld (pv 0) rfl) (nomark _))))))))
      pss_nil)
    (pss_one (ps_ret (pe_and (pe_cmpR op_le (pe_fld (pv 0) rfl) (pv 1) (nomark _)) (pe_one (pe_or (pe_cmpR op_isNo (pe_fld (pv 0) rfl) pe_non (nomark _)) (pe_one (pe_cmpR op_le (pv 1) (pe_fld (pv 0) rfl) (nomark _))))))))), ?_⟩)
  obtain ⟨x0, x1, rfl, h⟩ := h
  rw [show L2.start n__law_held [x0, x1] = [some x0, some x1] from rfl]
  try dsimp only [cxOf]
  obtain ⟨tk, t, n, rfl, rfl, hu, ⟨dxt, ht⟩, k⟩ := h
  cases t with
  | sl l h => exact hu.elim
  | up l h =>
    wtm_at "go"
    refine r_isiO ht T.ic_Up T.ic_Up T.sb_Up_Up ?_
    wtm_at "go"
    refine r_fld ht T.cl_Up T.na_Up_at rfl ?_
    dsimp only [Tk.at_, oV]
    cases h with
    | none =>
      have k : Q (.bl (decide (l ≤ (n : Int)))) H := k
      wtm_at "go"
      wtm_at "br"
      · intro c
        wtm_at "go"
        refine r_fld ht T.cl_Up T.na_Up_end rfl ?_
        dsimp only [Tk.en, oV]
        wtm_at "go"
        rw [decide_eq_true c] at k
        exact k
      · intro c
        rw [decide_eq_false c] at k
        exact k
    | some e =>
      have k : Q (.bl (decide (l ≤ (n : Int)) && decide ((n : Int) < e))) H := k
      wtm_at "go"
      wtm_at "br"
      · intro c
        wtm_at "go"
        refine r_fld ht T.cl_Up T.na_Up_end rfl ?_
        dsimp only [Tk.en, oV]
        wtm_at "go"
        refine r_fld ht T.cl_Up T.na_Up_end rfl ?_
        dsimp only [Tk.en, oV]
        wtm_at "go"
        rw [decide_eq_true c, Bool.true_and] at k
        exact k
      · intro c
        rw [decide_eq_false c, Bool.false_and] at k
        exact k
  | dn l h =>
    wtm_at "go"
    refine r_isiO ht T.ic_Down T.ic_Up T.sb_Down_Up ?_
    wtm_at "go"
    refine r_fld ht T.cl_Down T.na_Down_end rfl ?_
    dsimp only [Tk.en, oV]
    cases l with
    | none =>
      have k : Q (.bl (decide (h ≤ (n : Int)))) H := k
      wtm_at "go"
      wtm_at "br"
      · intro c
        wtm_at "go"
        refine r_fld ht T.cl_Down T.na_Down_at rfl ?_
        dsimp only [Tk.at_, oV]
        wtm_at "go"
        rw [decide_eq_true c] at k
        exact k
      · intro c
        rw [decide_eq_false c] at k
        exact k
    | some e =>
      have k : Q (.bl (decide (h ≤ (n : Int)) && decide ((n : Int) ≤ e))) H := k
      wtm_at "go"
      wtm_at "br"
      · intro c
        wtm_at "go"
        refine r_fld ht T.cl_Down T.na_Down_at rfl ?_
        dsimp only [Tk.at_, oV]
        wtm_at "go"
        refine r_fld ht T.cl_Down T.na_Down_at rfl ?_
        dsimp only [Tk.at_, oV]
        wtm_at "go"
        rw [decide_eq_true c, Bool.true_and] at k
        exact k
      · intro c
        rw [decide_eq_false c, Bool.false_and] at k
        exact k

abbrev nt7 (m : Int) : Str := ((toString m : String) : Str)
def sp__law_refused (K : PySem.W.Frag) (D : Ad) : Sp := Sp3 fun x y z H Q _ => ∃ (a tk : Addr) (h : Hh) (m : Int) (n : Nat) (B : Hp) (L : List Cell), x = .ref a ∧ y = .int m ∧ z = .ref tk ∧ Ho D B H L a h ∧ h.le n ∧ n < 9000 ∧ m.natAbs.log2 < 1920 ∧
  ((m < h.floor ∧ ∀ B' H', Same B B' → Ho D B' H' L a h → Q (.str ("old " ++ nt7 m)) H') ∨ (h.floor ≤ m ∧ h.now < m ∧ ∀ B' H', Same B B' → Ho D B' H' L a h → Q (.str ("not yet " ++ nt7 m)) H'))
theorem ok__law_refused {D : Ad} (T : Txt K mg D) : FnOk P w K mg base (L2.CX P w) 8 D.a__law_refused D.d__law_refused ["_law_house", "_law_moment", "_law_token_here"] (sp__law_refused K D) := by
  refine T.F__law_refused.okX sc__law_refused (fun vs H Q E h => sp3_len h) (fun cdv A outer s H vs Q E hr h => ⟨_, (pss_cons (ps_set (i := 3) sc__law_refused.nd rfl (Or.inl rfl) pe_str)
    (pss_cons (Z.ps_tryMZ rfl rfl sc__law_refused.nd (takes_of rfl rfl rfl rfl) (fun WW pn xe tk po =>
        (pss_one (ps_expr (pe_methW (pv 0) T.cl_House T.me_House_page_at (ok_House_page_at T) (hr.mono (by decide)) T.b_House_page_at .nil (fun σ => passAt tk σ) (pa_cons (pv 1) (pa_cons (pv 2) (pa_cons pe_int pa_nil)))))))
        (.cons (i := 4) ⟨rfl, by decide, .inl T.g_TooOld⟩ rfl rfl (fun a oe cls d pn hz hf =>
          (pss_one (ps_set (i := 3) sc__law_refused.nd rfl (Or.inl rfl) (pe_op op_addS pe_str (pe_callTy call_strI (by rfl) T.n_str bt_str (pa_cons (pe_xfA hz hf (pv 4)) pa_nil))))))
        (.cons (i := 4) ⟨rfl, by decide, .inl T.g_NoMoment⟩ rfl rfl (fun a oe cls d pn hz hf =>
          (pss_one (ps_set (i := 3) sc__law_refused.nd rfl (Or.inl rfl) (pe_op op_addS pe_str (pe_callTy call_strI (by rfl) T.n_str bt_str (pa_cons (pe_xfA hz hf (pv 4)) pa_nil))))))
        .nil)))
    (pss_one (ps_ret (pv 3))))), ?_⟩)
  obtain ⟨x0, x1, x2, rfl, h⟩ := h
  rw [show L2.start n__law_refused [x0, x1, x2] = [some x0, some x1, some x2, none, none] from rfl]
  try dsimp only [cxOf]
  obtain ⟨a, tk, h, m, n, B, L, rfl, rfl, rfl, ho, hle, hn, hsm, k⟩ := h
  obtain ⟨dx, hoa⟩ := ho.obj
  have hml := str_len m hsm
  wtm_at "go"
  refine r_meth hoa rfl ?_
  wtm_at "go"
  rcases k with ⟨h1, k⟩ | ⟨h1, h2, k⟩
  · refine ⟨_, _, _, _, rfl, a, tk, h, m, 3, n, B, L, rfl, rfl, rfl, rfl, by decide, ho, hle, hn, .inr ⟨trivial, .inl ⟨h1, fun d B2 H2 s2 i2 ho => r_caught (T.xc_TooOld.exm T.sb_TooOld_TooOld) fun ea hea => ?_⟩⟩⟩
    obtain ⟨A, w, back⟩ := ho.mv
    wtm_at "go"
    refine r_xf T.xc_TooOld T.no_TooOld_moment (w.rd i2) rfl ?_
    wtm_at "go"
    refine r_strI hsm ?_
    wtm_at "go"
    refine r_addS (szl (by have e : ("old " : Str).length = 4 := by decide
                           rw [e]; omega)) ?_
    wtm_at "go"
    exact k B2 H2 s2 ho
  · refine ⟨_, _, _, _, rfl, a, tk, h, m, 3, n, B, L, rfl, rfl, rfl, rfl, by decide, ho, hle, hn, .inr ⟨trivial, .inr ⟨h1, h2, fun d B2 H2 s2 i2 ho => r_passed (T.xc_TooOld.exm T.sb_NoMoment_TooOld) (r_caught (T.xc_NoMoment.exm T.sb_NoMoment_NoMoment) fun ea hea => ?_)⟩⟩⟩
    obtain ⟨A, w, back⟩ := ho.mv
    wtm_at "go"
    refine r_xf T.xc_NoMoment T.no_NoMoment_moment (w.rd i2) rfl ?_
    wtm_at "go"
    refine r_strI hsm ?_
    wtm_at "go"
    refine r_addS (szl (by have e : ("not yet " : Str).length = 8 := by decide
                           rw [e]; omega)) ?_
    wtm_at "go"
    exact k B2 H2 s2 ho

theorem rows_srt {kv qs ps : Kv} (nd : (ksP kv).Nodup) (p1 : qs.Perm kv) (s1 : qs.Pairwise fun x y => SrtO.lexB y x = false) (p2 : ps.Perm kv) (s2 : (ksP ps).Pairwise (· ≤ ·)) : ps = qs := by
  have k1 : ksP qs = ksP ps := sorted_uniq (List.pairwise_map.mpr (s1.imp fun {x y} h => by have := SrtO.lexB_no.mp h; omega)) s2 ((p1.map _).trans (p2.map _).symm)
  have e : ∀ rs : Kv, rs.Perm kv → rs = (ksP rs).map fun k => (k, (getP kv k).getD 0) := fun rs p => by
    unfold ksP
    rw [List.map_map]
    conv => lhs; rw [← List.map_id rs]
    refine List.map_congr_left fun x hx => ?_
    show x = (x.1, (getP kv x.1).getD 0)
    rw [getP_some (v := x.2) nd (p.mem_iff.mp hx)]
    rfl
  rw [e qs p1, e ps p2, k1]
/-- what a page told at a moment is -/
def PgM (D : Ad) (h : Hh) (B : Hp) (t : Tk) (kv : Kv) (many : Nat) (p : Addr) (B' : Hp) : Prop := ∃ (q : Addr) (x : V) (ts : List Addr), B q = none ∧ B' p = some (.tup [.ref q, x]) ∧ B' q = some (.lst (ts.map V.ref)) ∧ TP B' ts ((dueT kv t).take many) ∧
  (((dueT kv t).length ≤ many ∧ x = .non) ∨ (many < (dueT kv t).length ∧ ∃ v, x = .ref v ∧ (behT ((dueK kv t).getD (many - 1) 0) t).ok ∧ IsTk D B' v (behT ((dueK kv t).getD (many - 1) 0) t)))
def sp__law_page (K : PySem.W.Frag) (D : Ad) : Sp := Sp4 fun x y z u H Q E => ∃ (a tk : Addr) (h : Hh) (m : Int) (many n : Nat) (t : Tk) (kv : Kv) (B : Hp) (L : List Cell), x = .ref a ∧ y = .int m ∧ z = .ref tk ∧ u = .int many ∧ 1 ≤ many ∧ Ho D B H L a h ∧ h.le n ∧ n < 9000 ∧
  h.floor ≤ m ∧ m ≤ h.now ∧ IsTk D B tk t ∧ isUD t ∧ t.ok ∧ Pm h m kv ∧ (∀ k ∈ ksM h.ls, 0 ≤ k) ∧
    ∀ (p : Addr) (B' H' : Hp), Same B B' → Ho D B' H' L a h → PgM D h B t kv many p B' → Q (.ref p) H'
theorem ok__law_page {D : Ad} (T : Txt K mg D) : FnOk P w K mg base (L2.CX P w) 8 D.a__law_page D.d__law_page ["_law_house", "_law_moment", "_law_token_here", "_law_many"] (sp__law_page K D) := by
  refine T.F__law_page.okX sc__law_page (fun vs H Q E h => sp4_len h) (fun cdv A outer s H vs Q E hr h => ⟨_, (pss_cons (ps_if (pt_cmpR op_eq (pv 3) pe_int (nomark _))
      (pss_one (ps_ret (pe_meth (pv 0) T.cl_House T.me_House_page_at (ok_House_page_at T) (hr.mono (by decide)) (T.b_House_page_at_1).choose_spec.2 (T.b_House_page_at_1).choose_spec.1 pX (pa_cons (pv 1) (pa_cons (pv 2) pa_nil)))))
      pss_nil)
    (pss_one (ps_ret (pe_meth (pv 0) T.cl_House T.me_House_page_at (ok_House_page_at T) (hr.mono (by decide)) T.b_House_page_at .nil pX (pa_cons (pv 1) (pa_cons (pv 2) (pa_cons (pv 3) pa_nil))))))), ?_⟩)
  obtain ⟨x0, x1, x2, x3, rfl, h⟩ := h
  rw [show L2.start n__law_page [x0, x1, x2, x3] = [some x0, some x1, some x2, some x3] from rfl]
  try dsimp only [cxOf]
  obtain ⟨a, tk, h, m, many, n, t, kv, B, L, rfl, rfl, rfl, rfl, hm1, ho, hle, hn, h1, h2, ht, hud, hok, pm, hnn, k⟩ := h
  obtain ⟨dx, hoa⟩ := ho.obj
  by_cases c : (many : Int) = 10
  · wtm_at "go"
    refine r_meth hoa rfl ?_
    wtm_at "go"
    exact ⟨_, _, _, _, rfl, a, tk, h, m, 10, n, B, L, rfl, rfl, rfl, rfl, by decide, ho, hle, hn, .inl ⟨h1, h2, t, kv, ht, hud, hok, pm, hnn, fun p q x ts B' H' s ho hqn ip iq tp hx => k p B' H' s ho (by rw [show many = 10 by omega]; exact ⟨q, x, ts, hqn, ip, iq, tp, hx⟩)⟩⟩
  · wtm_at "go"
    refine r_meth hoa rfl ?_
    wtm_at "go"
    exact ⟨_, _, _, _, rfl, a, tk, h, m, many, n, B, L, rfl, rfl, rfl, rfl, hm1, ho, hle, hn, .inl ⟨h1, h2, t, kv, ht, hud, hok, pm, hnn, fun p q x ts B' H' s ho hqn ip iq tp hx => k p B' H' s ho ⟨q, x, ts, hqn, ip, iq, tp, hx⟩⟩⟩

def sp__law_due (K : PySem.W.Frag) (D : Ad) : Sp := Sp2 fun x y H Q E => ∃ (tk dp : Addr) (t : Tk) (kv : Kv) (B : Hp) (L : List Cell), x = .ref tk ∧ y = .ref dp ∧ isUD t ∧ IsTk D B tk t ∧ W B L H ∧ (dp, .dK (dkP kv)) ∈ L ∧ (ksP kv).Nodup ∧ (∀ k ∈ ksP kv, 0 ≤ k) ∧ kv.length ≤ 9000 ∧
  ∀ (p : Addr) (ts : List Addr) (B' H' : Hp), Same B B' → B' p = some (.lst (ts.map V.ref)) → TP B' ts (dueT kv t) → W B' L H' → Q (.ref p) H'
theorem ok__law_due {D : Ad} (T : Txt K mg D) : FnOk P w K mg base (L2.CX P w) 2 D.a__law_due D.d__law_due ["_law_token_here", "_law_plain"] (sp__law_due K D) := by
  refine T.F__law_due.okX sc__law_due (fun vs H Q E h => sp2_len h) (fun cdv A outer s H vs Q E hr h => ⟨_, (pss_cons (ps_setLc (i := 2) (own := [("_law_row", 3)]) (g := gName 3) rfl sc__law_due.nd rfl rfl (sw_true rfl rfl rfl (by decide +kernel)) (pi_list (pe_sortItems rfl (pv 1) (by rfl) T.n_sorted bt_sorted)) (blkOk_by (own := [("_law_row", 3)]) (N := n__law_due) (sc := defScope s__law_due) (by decide +kernel)) (fun _ _ _ _ _ => (pg_name (i := 3) sc__law_due.nd rfl (Or.inl rfl))) (fun _ _ _ _ _ => (pts_one (pt_val (pe_call (sp := sp__law_held K D) (k := 1) (ok__law_held T) (hr.mono (j := 1) (by decide)) rfl T.g__law_held T.F__law_held.kp T.b__law_held .nil passF (pa_cons (pv 0) (pa_cons (pe_ix (r := rIxT K) ix_tup (pv 3) pe_int (fun _ _ => rfl)) pa_nil)))))) (fun _ _ _ _ _ => (pv 3)))
    (pss_cons (ps_if (pt_val (pe_callB call_isi (by rfl) T.n_isinstance bt_isinstance (pa_cons (pv 0) (pa_cons (pe_glob (v := .ref D.c_Down) rfl T.g_Down rfl) pa_nil))))
      (pss_one (ps_ret (pe_revL (pv 2))))
      pss_nil)
    (pss_one (ps_ret (pv 2))))), ?_⟩)
  obtain ⟨x0, x1, rfl, h⟩ := h
  rw [show L2.start n__law_due [x0, x1] = [some x0, some x1, none, none] from rfl]
  try dsimp only [cxOf]
  obtain ⟨tk, dp, t, kv, B, L, rfl, rfl, hud, ht, w, hm, nd, nn, hkl, k⟩ := h
  have hdk := w.get hm
  wtm_at "go"
  refine g_sortIt ?_
  wtm_at "go"
  refine r_sortIt w hdk fun p1 us qs B1 H1 s1 i1 tp pq so w => ?_
  have eqs : srtK kv = qs := rows_srt nd pq so (srtK_perm nd) (by rw [srtK_ks]; exact srt_sorted _)
  subst eqs
  have hsl : (srtK kv).length = kv.length := srtK_len kv
  have htl := tp.len
  wtm_at "go"
  refine r_il (SqL.of (w.rd i1)) ?_
  intro D2 hD2
  refine LC.list (K := K) w hD2 (SqL.of i1) (szlt (by rw [List.length_map]; omega)) (fun j B acc => ∃ vs : List Addr, acc = vs.map V.ref ∧ TP B vs (((srtK kv).take j).filter fun p => t.holds p.1.toNat)) ⟨[], rfl, TP.nil⟩ ?_ ?_
  · rintro j x B2 acc H2 Nx hj s2 w ⟨vs, rfl, tv⟩ hl1 hl2 hN
    obtain ⟨u, rfl, hu⟩ : ∃ u, x = .ref u ∧ us[j]? = some u := by
      rw [List.getElem?_map] at hj
      obtain ⟨u, hu, rfl⟩ := Option.map_eq_some_iff.mp hj
      exact ⟨u, rfl, hu⟩
    obtain ⟨q, hq, hqt⟩ := tp.at hu
    have hqt := s2 _ _ hqt
    have hqm := srtK_mem (List.mem_of_getElem? hq)
    have q0 := nn q.1 (List.mem_map.mpr ⟨q, hqm.1, rfl⟩)
    obtain ⟨kn, hkn⟩ := Int.eq_ofNat_of_zero_le q0
    wtm_at "go"
    refine ⟨rfl, ?_⟩
    wtm_at "go"
    have hit : IsTk D H2 tk t := by
      obtain ⟨dxt, hd⟩ := (ht.mono s1).mono s2
      exact ⟨dxt, w.rd hd⟩
    refine ⟨_, _, rfl, tk, t, kn, rfl, by rw [hkn], hud, hit, ?_⟩
    have efil : ((srtK kv).take (j + 1)).filter (fun p => t.holds p.1.toNat) = ((srtK kv).take j).filter (fun p => t.holds p.1.toNat) ++ if t.holds kn then [q] else [] := by
      rw [List.take_add_one, hq, List.filter_append]
      congr 1
      show List.filter _ [q] = _
      rw [List.filter_cons, List.filter_nil, hkn, Int.toNat_natCast]
    generalize t.holds kn = b at *
    cases b with
    | true =>
      wtm_at "go"
      refine r_acc w hl2 fun H5 w => ?_
      refine hN B2 _ H5 (same_refl _) w ⟨vs ++ [u], by rw [List.map_append]; rfl, ?_⟩ (by rw [List.length_append, List.length_singleton]; omega)
      rw [efil, if_pos rfl]
      exact tv.app (TP.one hqt)
    | false =>
      wtm_at "go"
      refine hN B2 _ H2 (same_refl _) w ⟨vs, rfl, ?_⟩ (by omega)
      rw [efil, if_neg Bool.false_ne_true, List.append_nil]
      exact tv
  rintro B2 B3 acc H3 s3 s3' i3 w ⟨vs, rfl, tv⟩ hl1
  rw [List.length_map, htl, List.take_length] at tv
  have tv := tv.mono s3'
  have s13 := same_trans s1 s3
  obtain ⟨dxt, hit⟩ := ht.mono s13
  cases t with
  | sl l h => exact hud.elim
  | up l h =>
    wtm_at "go"
    refine r_isiO (w.rd hit) T.ic_Up T.ic_Down T.sb_Up_Down ?_
    wtm_at "go"
    exact k D2 vs B3 H3 s13 i3 tv w
  | dn l h =>
    wtm_at "go"
    refine r_isiO (w.rd hit) T.ic_Down T.ic_Down T.sb_Down_Down ?_
    wtm_at "go"
    refine g_revL ?_
    wtm_at "go"
    refine d_revL w (SqL.of (w.rd i3)) fun p5 B5 H5 hp5 s5 i5 w => ?_
    rw [← List.map_reverse] at i5
    obtain ⟨ws, tw, ew⟩ : ∃ ws, TP B5 ws (dueT kv (.dn l h)) ∧ ws = vs.reverse := ⟨vs.reverse, ⟨fun t ht => (tv.mono s5).all t (List.mem_reverse.mp ht), by
      show List.reverse _ = _
      rw [(tv.mono s5).eq, List.map_reverse]⟩, rfl⟩
    exact k p5 ws B5 H5 (same_trans s13 s5) (by rw [ew]; exact i5) tw w

def sp__law_next (_ : PySem.W.Frag) (D : Ad) : Sp := Sp3 fun x y z H Q _ => ∃ (tk v : Addr) (t : Tk) (key : Int), x = .ref tk ∧ y = .ref v ∧ z = .int key ∧ isUD t ∧ IsTk D H tk t ∧ IsTk D H v (behT key t) ∧ Q (.bl true) H
theorem ok__law_next {D : Ad} (T : Txt K mg D) : FnOk P w K mg base (L2.CX P w) 1 D.a__law_next D.d__law_next ["_law_token_here", "_law_found", "_law_last"] (sp__law_next K D) := by
  refine T.F__law_next.okX sc__law_next (fun vs H Q E h => sp3_len h) (fun cdv A outer s H vs Q E hr h => ⟨_, (pss_cons (ps_if (pt_val (pe_callB call_isi (by rfl) T.n_isinstance bt_isinstance (pa_cons (pv 0) (pa_cons (pe_glob (v := .ref D.c_Up) rfl T.g_Up rfl) pa_nil))))
      (pss_one (ps_ret (pe_and (pe_callB call_isi (by rfl) T.n_isinstance bt_isinstance (pa_cons (pv 1) (pa_cons (pe_glob (v := .ref D.c_Up) rfl T.g_Up rfl) pa_nil))) (pe_and (pe_cmpR op_eq (pe_fld (pv 1) rfl) (pe_op op_add (pv 2) pe_int) (nomark _)) (pe_one (pe_cmpR op_eq (pe_fld (pv 1) rfl) (pe_fld (pv 0) rfl) (nomark _)))))))
      pss_nil)
    (pss_one (ps_ret (pe_and (pe_callB call_isi (by rfl) T.n_isinstance bt_isinstance (pa_cons (pv 1) (pa_cons (pe_glob (v := .ref D.c_Down) rfl T.g_Down rfl) pa_nil))) (pe_and (pe_cmpR op_eq (pe_fld (pv 1) rfl) (pe_op op_sub (pv 2) pe_int) (nomark _)) (pe_one (pe_cmpR op_eq (pe_fld (pv 1) rfl) (pe_fld (pv 0) rfl) (nomark _)))))))), ?_⟩)
  obtain ⟨x0, x1, x2, rfl, h⟩ := h
  rw [show L2.start n__law_next [x0, x1, x2] = [some x0, some x1, some x2] from rfl]
  try dsimp only [cxOf]
  obtain ⟨tk, v, t, key, rfl, rfl, rfl, hu, ⟨dxt, ht⟩, ⟨dxv, hv⟩, k⟩ := h
  cases t with
  | sl l h => exact hu.elim
  | up l h =>
    have hv : H v = some (.ins D.c_Up dxv [("at", .int (key + 1)), ("end", oV h)]) := hv
    have ht : H tk = some (.ins D.c_Up dxt [("at", .int l), ("end", oV h)]) := ht
    wtm_at "go"
    refine r_isiO ht T.ic_Up T.ic_Up T.sb_Up_Up ?_
    wtm_at "go"
    refine r_isiO hv T.ic_Up T.ic_Up T.sb_Up_Up ?_
    wtm_at "go"
    refine r_fld hv T.cl_Up T.na_Up_at rfl ?_
    wtm_at "go"
    refine r_fld hv T.cl_Up T.na_Up_end rfl ?_
    wtm_at "go"
    refine r_fld ht T.cl_Up T.na_Up_end rfl ?_
    cases h with
    | none =>
      dsimp only [oV]
      wtm_at "go"
      refine ⟨rfl, ?_⟩
      rw [decide_eq_true rfl]
      exact k
    | some e =>
      dsimp only [oV]
      wtm_at "go"
      refine (?_ : Q (V.bl (decide (e = e))) H)
      rw [decide_eq_true rfl]
      exact k
  | dn l h =>
    have hv : H v = some (.ins D.c_Down dxv [("at", .int (key - 1)), ("end", .int h)]) := hv
    have ht : H tk = some (.ins D.c_Down dxt [("at", oV l), ("end", .int h)]) := ht
    wtm_at "go"
    refine r_isiO ht T.ic_Down T.ic_Up T.sb_Down_Up ?_
    wtm_at "go"
    refine r_isiO hv T.ic_Down T.ic_Down T.sb_Down_Down ?_
    wtm_at "go"
    refine r_fld hv T.cl_Down T.na_Down_at rfl ?_
    wtm_at "go"
    refine r_fld hv T.cl_Down T.na_Down_end rfl ?_
    wtm_at "go"
    refine r_fld ht T.cl_Down T.na_Down_end rfl ?_
    wtm_at "go"
    refine (?_ : Q (V.bl (decide (h = h))) H)
    rw [decide_eq_true rfl]
    exact k

theorem hoP_pos {ht : Kv} {m0 : Int} (h : ∀ m v, getP ht m = some v → 1 ≤ v) : ∀ m v, getP (hoP ht m0) m = some v → 1 ≤ v := fun m v e => by
  unfold hoP at e
  rw [getP_putO] at e
  split at e
  · cases e
    cases e2 : getP ht m0 with
    | none => show (1 : Int) ≤ 0 + 1; omega
    | some u => have := h m0 u e2; show 1 ≤ u + 1; omega
  · exact h m v e
theorem goP_pos {ht : Kv} {m0 : Int} (hm : m0 ∈ ksP ht) (h : ∀ m v, getP ht m = some v → 1 ≤ v) : ∀ m v, getP (goP ht m0) m = some v → 1 ≤ v := fun m v e => by
  unfold goP at e
  split at e
  · rw [getP_delO] at e
    split at e
    · cases e
    · exact h m v e
  · rename_i c
    rw [getP_putO] at e
    split at e
    · cases e
      cases e2 : getP ht m0 with
      | none =>
        obtain ⟨u, hu⟩ := getP_ex hm
        rw [e2] at hu
        cases hu
      | some u => rw [e2] at c; have := h m0 u e2; have c : ¬ u - 1 = 0 := c; show 1 ≤ u - 1; omega
    · exact h m v e
/-! what deeds keep -/
structure Pk (h : Hh) (ht : Kv) : Prop where
  ri : ∀ k, Ris (mkM h.ls k)
  no : ∀ k, ∀ m ∈ mkM h.ls k, m.1 ≤ h.now
  nk : ∀ k ∈ ksM h.ls, 0 ≤ k
  cu : ∀ k, vaM (mkM h.ls k) h.now = getP h.kv k
  nn : ∀ k ∈ ksP h.kv, 0 ≤ k
  hs : h.hs = dkP ht
  f0 : 0 ≤ h.floor
  fn : h.floor ≤ h.now
  hf : ∀ m ∈ ksP ht, h.floor ≤ m
  hn : ∀ m ∈ ksP ht, m ≤ h.now
  hp : ∀ m v, getP ht m = some v → 1 ≤ v
/-- what was told of a moment stays told -/
def Stay (h h' : Hh) : Prop := ∀ (m : Int) (kv : Kv), m ≤ h.now → Pm h m kv → Pm h' m kv
theorem Stay.refl (h : Hh) : Stay h h := fun _ _ _ p => p
theorem Pk.deed {h h' : Hh} {ht : Kv} {key : Int} {v : Option Int} (i : Pk h ht) (h0 : 0 ≤ key) (e2 : h'.now = h.now + 1) (e3 : h'.floor = h.floor) (e4 : h'.hs = h.hs) (e5 : mkM h'.ls = addF (mkM h.ls) key (h.now + 1, v)) (e6 : ∀ k, k ∈ ksM h'.ls ↔ k = key ∨ k ∈ ksM h.ls)
    (g1 : ∀ k, getP h'.kv k = if k = key then v else getP h.kv k) (g3 : ∀ k ∈ ksP h'.kv, 0 ≤ k) : Pk h' ht ∧ Stay h h' := by
  have hx : ∀ k, ∀ y ∈ mkM h.ls k, y.1 < h.now + 1 := fun k y hy => by have := i.no k y hy; omega
  have hmk : ∀ k, mkM h'.ls k = if k = key then mkM h.ls key ++ [(h.now + 1, v)] else mkM h.ls k := fun k => by rw [e5]; rfl
  refine ⟨⟨fun k => ?_, fun k m hm => ?_, fun k hk => ?_, fun k => ?_, g3, e4.trans i.hs, by rw [e3]; exact i.f0, by rw [e3, e2]; have := i.fn; omega, by rw [e3]; exact i.hf, by rw [e2]; exact fun m hm => by have := i.hn m hm; omega, i.hp⟩, fun m kv hm pm => ⟨fun k => ?_, pm.nd, pm.nn⟩⟩
  · rw [hmk]
    split
    · exact ris_app (i.ri key) (hx key)
    · exact i.ri k
  · rw [hmk] at hm
    rw [e2]
    split at hm
    · rcases List.mem_append.mp hm with hm | hm
      · have := i.no key m hm; omega
      · rw [List.mem_singleton.mp hm]; exact Int.le_refl _
    · have := i.no k m hm; omega
  · rcases (e6 k).mp hk with rfl | hk
    · exact h0
    · exact i.nk k hk
  · rw [e2, hmk, g1]
    split
    · exact va_new (i.ri key) (hx key) (Int.le_refl _)
    · rw [va_top (i.ri k) (m := h.now + 1) (m' := h.now) (fun y hy => by have := i.no k y hy; omega) (i.no k)]
      exact i.cu k
  · rw [hmk]
    split
    · rename_i ck
      rw [va_old (i.ri key) (hx key) (show m < h.now + 1 by omega), ← ck]
      exact pm.va k
    · exact pm.va k
theorem Pk.now {h : Hh} {ht : Kv} (i : Pk h ht) (nd : (ksP h.kv).Nodup) : Pm h h.now h.kv := ⟨i.cu, nd, i.nn⟩
theorem Pk.sweep {h : Hh} {ht : Kv} {ls : List Lt} (i : Pk h ht) (e1 : ∀ k, mkM ls k = neM (mnP ht h.now) (mkM h.ls k)) (e2 : ∀ k ∈ ksM ls, k ∈ ksM h.ls) : Pk (h.swept (mnP ht h.now) ls) ht ∧ ∀ (m : Int) (kv : Kv), mnP ht h.now ≤ m → Pm h m kv → Pm (h.swept (mnP ht h.now) ls) m kv := by
  have hlo := mnP_le (ht := ht) (now := h.now)
  have hge := mnP_ge (now := h.now) i.hf i.fn
  have hno : mnP ht h.now ≤ h.now := by
    unfold mnP
    cases e : srt (ksP ht) with
    | nil => exact Int.le_refl _
    | cons x r => exact i.hn x ((srt_perm _).mem_iff.mp (by rw [e]; exact List.mem_cons_self ..))
  have hva : ∀ k m, mnP ht h.now ≤ m → vaM (mkM ls k) m = vaM (mkM h.ls k) m := fun k m hm => by rw [e1]; exact va_ne (i.ri k) hm
  refine ⟨⟨fun k => by show Ris (mkM ls k); rw [e1]; exact (neM_sub _ _ (i.ri k)).1, fun k m hm => by
    have hm : m ∈ mkM ls k := hm
    rw [e1] at hm
    exact i.no k m ((neM_sub _ _ (i.ri k)).2 m hm), fun k hk => i.nk k (e2 k hk), fun k => (hva k _ hno).trans (i.cu k), i.nn, i.hs, by show 0 ≤ mnP ht h.now; have := i.f0; omega, hno, hlo, i.hn, i.hp⟩, fun m kv hm pm => ⟨fun k => (hva k m hm).trans (pm.va k), pm.nd, pm.nn⟩⟩
theorem pd_put {D : Ad} {B H : Hp} {L : List Cell} {a pd : Addr} {h : Hh} {kv : Kv} (ho : Ho D B H ((pd, .dK (dkP kv)) :: L) a h) (kv' : Kv) : Ho D B (upd H pd (.dK (dkP kv'))) ((pd, .dK (dkP kv')) :: L) a h := by
  obtain ⟨R, w, back⟩ := Ho.out (X := [(pd, .dK (dkP kv))]) ho
  exact back B _ [(pd, .dK (dkP kv'))] (same_refl _) (W.put0 w _)
structure Vk (D : Ad) (B H : Hp) (L : List Cell) (a dp : Addr) (h : Hh) (ht : Kv) (n m : Nat) : Prop where
  ho : Ho D B H ((dp, .dK (dkP h.kv)) :: L) a h
  pk : Pk h ht
  le : h.le n
  hl : ht.length ≤ n
  kl : h.kv.length ≤ m
theorem Vk.mv {D : Ad} {B H : Hp} {L : List Cell} {a dp : Addr} {h : Hh} {ht : Kv} {n m : Nat} (t : Vk D B H L a dp h ht n m) : ∃ A, W B A H ∧ ∀ B' H', Same B B' → W B' A H' → Vk D B' H' L a dp h ht n m := by
  obtain ⟨A, w, back⟩ := t.ho.mv
  exact ⟨A, w, fun B' H' s w => { t with ho := back B' H' s w }⟩
theorem Hh.le_mono {h : Hh} {n n' : Nat} (l : h.le n) (hn : n ≤ n') : h.le n' := ⟨Nat.le_trans l.1 hn, Nat.le_trans l.2.1 hn, fun k => Nat.le_trans (l.2.2.1 k) hn, Nat.le_trans l.2.2.2 hn⟩
/-- a deed of the law: what was told of held moments, or of any where nothing is swept, stays told -/
def sp__law_deed (K : PySem.W.Frag) (D : Ad) : Sp := Sp4 fun x y z u H Q _ => ∃ (a dp : Addr) (h : Hh) (ht : Kv) (c : Int) (calm : Bool) (n m : Nat) (B : Hp) (L : List Cell), x = .ref a ∧ y = .ref dp ∧ z = .int c ∧ u = .bl calm ∧ Vk D B H L a dp h ht n (150 + m) ∧ n < 8000 ∧ m ≤ 400 ∧
  ∀ B' H' h' ht', Same B B' → Vk D B' H' L a dp h' ht' (n + 30) (150 + m + 1) → h.now ≤ h'.now → h'.now ≤ h.now + 30 → (∀ k, k ∈ ksP ht → k ∈ ksP ht') → (∀ (mm : Int) (kv : Kv), mm ≤ h.now → (calm = true ∨ mm ∈ ksP ht) → h.floor ≤ mm → Pm h mm kv → Pm h' mm kv ∧ h'.floor ≤ mm) → Q .non H'
theorem ok__law_deed {D : Ad} (T : Txt K mg D) : FnOk P w K mg base (L2.CX P w) 8 D.a__law_deed D.d__law_deed ["_law_house", "_law_plain", "_law_cell", "_law_calm"] (sp__law_deed K D) := by
  refine T.F__law_deed.okX sc__law_deed (fun vs H Q E h => sp4_len h) (fun cdv A outer s H vs Q E hr h => ⟨_, (pss_cons (ps_set (i := 4) sc__law_deed.nd rfl (Or.inl rfl) (pe_call (ok__law_key T) (hr.mono (by decide)) rfl T.g__law_key T.F__law_key.kp T.b__law_key .nil pX (pa_cons (pv 2) pa_nil)))
    (pss_cons (ps_set (i := 5) sc__law_deed.nd rfl (Or.inl rfl) (pe_sortKeys rfl (pv 1) (by rfl) T.n_sorted bt_sorted))
    (pss_cons (ps_set (i := 6) sc__law_deed.nd rfl (Or.inl rfl) (pe_op op_mod (pe_call (ok__law_drawn T) (hr.mono (by decide)) rfl T.g__law_drawn T.F__law_drawn.kp T.b__law_drawn .nil pX (pa_cons (pv 2) (pa_cons pe_int pa_nil))) pe_int))
    (pss_one (ps_if (PW.pt (pw_and (pt_cmpR op_lt (pv 6) pe_int (nomark _)) (pw_and1 (pt_cmpR (op_neD hr.units) (pv 5) (pe_lst pa_nil) (nomark _)))))
      (pss_cons (ps_set (i := 4) sc__law_deed.nd rfl (Or.inl rfl) (pe_ix ix_list (pv 5) (pe_op op_mod (pe_call (ok__law_drawn T) (hr.mono (by decide)) rfl T.g__law_drawn T.F__law_drawn.kp T.b__law_drawn .nil pX (pa_cons (pv 2) (pa_cons pe_int pa_nil))) (pe_callB call_lenZ (by rfl) T.n_len bt_len (pa_cons (pv 5) pa_nil))) (fun _ _ => rfl)))
      (pss_cons (ps_expr (pe_dpop1 (pv 1) (pv 4) ⟨rfl, by rfl, rfl, rfl⟩))
      (pss_one (ps_expr (pe_meth (pv 0) T.cl_House T.me_House_drop (ok_House_drop T) (hr.mono (by decide)) T.b_House_drop .nil pX (pa_cons (pv 4) pa_nil))))))
      (pss_one (ps_if (PW.pt (pw_and (pt_cmpR op_eq (pv 6) pe_int (nomark _)) (pw_and1 (pt_not (pt_val (pv 3))))))
        (pss_one (ps_expr (pe_meth0 (pv 0) T.cl_House T.me_House_sweep (ok_House_sweep T) (hr.mono (by decide)) T.b_House_sweep .nil pX)))
        (pss_one (ps_if (pt_cmpR op_eq (pv 6) pe_int (nomark _))
          (pss_one (ps_expr (pe_meth0 (pv 0) T.cl_House T.me_House_hold (ok_House_hold T) (hr.mono (by decide)) T.b_House_hold .nil pX)))
          (pss_cons (ps_set (i := 7) sc__law_deed.nd rfl (Or.inl rfl) pe_int)
          (pss_cons (ps_if (PW.pt (pw_and (pt_cmpR op_gt (pv 6) pe_int (nomark _)) (pw_and1 (pt_cmpR op_lt (pe_callB call_lenDi (by rfl) T.n_len bt_len (pa_cons (pv 1) pa_nil)) pe_int (nomark _)))))
            (pss_one (ps_set (i := 7) sc__law_deed.nd rfl (Or.inl rfl) (pe_op op_add pe_int (pe_op op_mod (pe_call (ok__law_drawn T) (hr.mono (by decide)) rfl T.g__law_drawn T.F__law_drawn.kp T.b__law_drawn .nil pX (pa_cons (pv 2) (pa_cons pe_int pa_nil))) pe_int))))
            pss_nil)
          (pss_one (ps_for (passes_of rfl) rfl (pi_range1 (by rfl) T.n_range (pa_cons (pv 7) pa_nil)) (pg_name (i := 8) sc__law_deed.nd rfl (Or.inl rfl))
            (pss_cons (ps_expr (pe_meth (pv 0) T.cl_House T.me_House_put (ok_House_put T) (hr.mono (by decide)) T.b_House_put .nil pX (pa_cons (pe_op op_add (pv 4) (pv 8)) (pa_cons (pe_op op_sub (pe_op op_mod (pv 2) (pe_op op_pow pe_int pe_int)) (pv 8)) pa_nil))))
            (pss_one (ps_dput (hu_of hr) (pv 1) (pe_op op_add (pv 4) (pv 8)) (pe_op op_sub (pe_op op_mod (pv 2) (pe_op op_pow pe_int pe_int)) (pv 8)) rfl)))))))))))))))), ?_⟩)
  obtain ⟨x0, x1, x2, x3, rfl, h⟩ := h
  rw [show L2.start n__law_deed [x0, x1, x2, x3] = [some x0, some x1, some x2, some x3, none, none, none, none, none] from rfl]
  try dsimp only [cxOf]
  obtain ⟨a, dp, h, ht, c, calm, n, m, B, L, rfl, rfl, rfl, rfl, hv, hn, hm, k⟩ := h
  have hkl := hv.kl
  obtain ⟨A, w, back⟩ := hv.mv
  wtm_at "go"
  refine ⟨_, rfl, c, B, A, rfl, w, fun key B1 H1 s1 w k0 => ?_⟩
  have hv := back _ _ s1 w
  have hdk : H1 dp = some (.dK (dkP h.kv)) := hv.ho.get (List.mem_cons_self ..)
  wtm_at "go"
  refine g_sortKeys ?_
  wtm_at "go"
  refine r_sortD w hdk (dkP_ks h.kv) fun ms p2 B2 H2 hpm hsr s2 i2 w => ?_
  have s12 := same_trans s1 s2
  have hv := back _ _ s12 w
  wtm_at "go"
  refine ⟨_, _, rfl, c, 3, rfl, rfl, by decide, ?_⟩
  have hdw := drG_nn c 3
  have hdw4 := drG_nn c 4
  have hdw5 := drG_nn c 5
  wtm_at "go"
  generalize drG c 3 % 10 = way at *
  have ndk := hv.ho.si.nd
  have hpk := hv.pk
  have hvle := hv.le
  have hvl := hv.hl
  by_cases c3 : way < 3 ∧ ms ≠ []
  · obtain ⟨cw, e⟩ := c3
    wtm_at "go"
    refine d_lst w (szl (by simp)) fun p0 B3 H3 hp0 s3 i3 w => ?_
    have s13 := same_trans s12 s3
    have hv := back _ _ s13 w
    have i2 := s3 _ _ i2
    refine r_neLI (ns := ms) (ms := []) (SqL.of (w.rd i2)) (SqL.of (w.rd i3)) ?_
    rw [decide_eq_false e]
    wtm_at "go"
    refine ⟨_, _, rfl, c, 4, rfl, rfl, by decide, ?_⟩
    wtm_at "go"
    refine r_lenL (SqL.of (w.rd i2)) ?_
    rw [List.length_map]
    have hlp : (0 : Int) < (ms.length : Nat) := by have := List.length_pos_iff.mpr e; omega
    wtm_at "go"
    obtain ⟨v, hvm0, ev⟩ := atI_ex (ns := ms) (i := drG c 4 % ((ms.length : Nat) : Int)) (Int.emod_nonneg _ (Int.ne_of_gt hlp)) (Int.emod_lt_of_pos _ hlp)
    have hvm : v ∈ ksP h.kv := hpm.mem_iff.mp hvm0
    obtain ⟨u, hu⟩ := getP_ex hvm
    have hv0 : 0 ≤ v := hpk.nn v hvm
    refine r_ixL (SqL.of (w.rd i2)) ev ?_
    have hdp : H3 dp = some (.dK (dkP h.kv)) := hv.ho.get (List.mem_cons_self ..)
    wtm_at "go"
    refine g_dpop1 ?_
    wtm_at "go"
    refine r_dpop1 (isD_of hdp) ?_
    wtm_at "go"
    refine r_dp1 hdp (v := .int u) (by rw [dkP_get, hu]; rfl) ?_
    rw [dkP_del]
    have ho := pd_put hv.ho (delP h.kv v)
    generalize upd H3 dp (.dK (dkP (delP h.kv v))) = H4 at *
    obtain ⟨dx, hoa⟩ := ho.obj
    wtm_at "go"
    refine r_meth hoa rfl ?_
    wtm_at "go"
    refine ⟨_, _, rfl, a, h, v, n, B3, _, rfl, rfl, hv0, ho, hvle, by omega, by omega, .inl ⟨hvm, fun B4 H5 h4 s4 ho e1 e2 e3 e4 e5 e6 e7 e8 e9 e10 hle => ?_⟩⟩
    have hdl := delP_le h.kv v
    wtm_at "go"
    have g1 : ∀ k', getP h4.kv k' = if k' = v then none else getP h.kv k' := fun k' => by rw [e1]; exact getP_delO h.kv v k'
    obtain ⟨pk4, stay⟩ := hpk.deed (key := v) (v := none) hv0 e2 e3 e5 e8 e9 g1 (fun k' hk' => by rw [e1, ksP_del] at hk'; exact hpk.nn k' (List.mem_filter.mp hk').1)
    exact k B4 H5 h4 ht (same_trans s13 s4) ⟨by rw [e1]; exact ho, pk4, Hh.le_mono hle (by omega), by omega, by rw [e1]; omega⟩ (by omega) (by omega) (fun _ h => h) fun mm kv hmm _ hfl pm => ⟨stay mm kv hmm pm, by omega⟩
  by_cases cw : way < 3
  · have he : ms = [] := Classical.byContradiction fun e => c3 ⟨cw, e⟩
    wtm_at "go"
    refine d_lst w (szl (by simp)) fun p0 B3 H3 hp0 s3 i3 w => ?_
    have s13 := same_trans s12 s3
    have hv := back _ _ s13 w
    refine r_neLI (ns := ms) (ms := []) (SqL.of (w.rd (s3 _ _ i2))) (SqL.of (w.rd i3)) ?_
    rw [decide_eq_true he]
    have c3' : ¬ way = 3 := by omega
    have c4' : ¬ way = 4 := by omega
    have c7' : ¬ way > 7 := by omega
    wtm_at "go"
    rw [show (Int.toNat 1) = 1 from rfl]
    refine FOR.range (n := 1) (fun i σ H' => ∃ (v8 : Option V) (B' : Hp) (h' : Hh), σ = [some (.ref a), some (.ref dp), some (.int c), some (.bl calm), some (.int key), some (.ref p2), some (.int way), some (.int 1), v8] ∧ Same B3 B' ∧ Vk D B' H' L a dp h' ht (n + i) (h.kv.length + i) ∧ h'.now = h.now + i ∧ h'.floor = h.floor ∧ Stay h h') ⟨none, B3, h, rfl, same_refl _, { hv with kl := Nat.le_refl _ }, by omega, rfl, Stay.refl h⟩ ?_ ?_
    · clear hv
      rintro i σ H5 hi ⟨v8, B5, h5, rfl, s5, hv, en, ef, st⟩
      have hkl5 := hv.kl
      rw [Int.zero_add]
      obtain ⟨dx, hoa⟩ := hv.ho.obj
      wtm_at "go"
      refine r_meth hoa rfl ?_
      wtm_at "go"
      refine ⟨_, _, _, rfl, a, h5, key + (i : Int), c % 10 ^ (9 : Int).toNat - i, n + i, B5, _, rfl, rfl, rfl, by omega, hv.ho, hv.le, by omega, by omega, fun B6 H6 h6 s6 ho e1 e2 e3 e4 e5 e6 e7 e8 e9 e10 hle => ?_⟩
      have hdp : H6 dp = some (.dK (dkP h5.kv)) := ho.get (List.mem_cons_self ..)
      wtm_at "go"
      refine r_dpu hdp (szlt (by rw [dkP_len]; omega)) ?_
      rw [dkP_put]
      have ho := pd_put ho (putP h5.kv (key + (i : Int)) (c % 10 ^ (9 : Int).toNat - i))
      have hpl := putP_le h5.kv (key + (i : Int)) (c % 10 ^ (9 : Int).toNat - i)
      have hvl5 := hv.hl
      obtain ⟨pk6, st6⟩ := hv.pk.deed (key := key + (i : Int)) (v := some (c % 10 ^ (9 : Int).toNat - i)) (by omega) e2 e3 e5 e8 e9 (fun k' => by rw [e1]; exact getP_putO _ _ _ k') (fun k' hk' => by
        rw [e1] at hk'
        by_cases ck : key + (i : Int) ∈ ksP h5.kv
        · rw [ksP_put_old ck] at hk'; exact hv.pk.nn k' hk'
        · rw [ksP_put_new ck] at hk'
          rcases List.mem_append.mp hk' with hk' | hk'
          · exact hv.pk.nn k' hk'
          · rw [List.mem_singleton.mp hk']; omega)
      wtm_at "go"
      exact ⟨_, B6, h6, rfl, same_trans s5 s6, ⟨by rw [e1]; exact ho, pk6, hle, by omega, by rw [e1]; omega⟩, by omega, by omega, fun mm kv hmm pm => st6 mm kv (by omega) (st mm kv hmm pm)⟩
    · rintro σ H5 ⟨v8, B5, h5, rfl, s5, hv5, en, ef, st⟩
      have hk5 := hv5.kl
      have hl5 := hv5.hl
      exact k B5 H5 h5 ht (same_trans s13 s5) ⟨hv5.ho, hv5.pk, Hh.le_mono hv5.le (by omega), by omega, by omega⟩ (by omega) (by omega) (fun _ h => h) fun mm kv hmm _ hfl pm => ⟨st mm kv hmm pm, by omega⟩

  by_cases cs : way = 3 ∧ calm = false
  · obtain ⟨cw3, rfl⟩ := cs
    obtain ⟨dx, hoa⟩ := hv.ho.obj
    wtm_at "go"
    refine r_meth hoa rfl ?_
    wtm_at "go"
    refine ⟨_, rfl, a, h, ht, n, B2, _, rfl, hv.ho, hpk.hs, hvle, by omega, fun B3 H3 ls s3 ho e1 e2 hle => ?_⟩
    obtain ⟨pk3, st3⟩ := hpk.sweep (ls := ls) (fun k => by rw [e1]) (fun k hk => by rw [e2] at hk; exact (List.mem_filter.mp hk).1)
    wtm_at "go"
    refine k B3 H3 _ ht (same_trans s12 s3) ⟨ho, pk3, Hh.le_mono hle (by omega), by omega, by show h.kv.length ≤ _; omega⟩ (Int.le_refl _) (by show h.now ≤ h.now + 30; omega) (fun _ h => h) fun mm kv hmm hh hfl pm => ?_
    rcases hh with hh | hh
    · cases hh
    · have hlo := mnP_le (ht := ht) (now := h.now) mm hh
      exact ⟨st3 mm kv hlo pm, hlo⟩
  by_cases c4 : way = 4
  · obtain ⟨dx, hoa⟩ := hv.ho.obj
    wtm_at "go"
    refine r_meth hoa rfl ?_
    wtm_at "go"
    refine ⟨_, rfl, a, h, ht, B2, _, rfl, hv.ho, hpk.hs, by omega, fun H3 ho => ?_⟩
    have hll := hoP_le ht h.now
    wtm_at "go"
    refine k B2 H3 (h.hold (hoP ht h.now)) (hoP ht h.now) s12 ⟨ho, ⟨hpk.ri, hpk.no, hpk.nk, hpk.cu, hpk.nn, rfl, hpk.f0, hpk.fn, fun m hm => ?_, fun m hm => ?_, hoP_pos hpk.hp⟩, ⟨Nat.le_trans hvle.1 (by omega), Nat.le_trans hvle.2.1 (by omega), fun k' => Nat.le_trans (hvle.2.2.1 k') (by omega), by show (dkP (hoP ht h.now)).length ≤ _; rw [dkP_len]; omega⟩, by omega, by show h.kv.length ≤ _; omega⟩ (Int.le_refl _) (by show h.now ≤ h.now + 30; omega) (fun x hx => ?_) fun mm kv hmm _ hfl pm => ⟨⟨pm.va, pm.nd, pm.nn⟩, hfl⟩
    · rcases hoP_sub hm with rfl | hm
      · exact hpk.fn
      · exact hpk.hf m hm
    · rcases hoP_sub hm with rfl | hm
      · exact Int.le_refl _
      · exact hpk.hn m hm
    · unfold hoP
      by_cases ck : h.now ∈ ksP ht
      · rw [ksP_put_old ck]; exact hx
      · rw [ksP_put_new ck]; exact List.mem_append_left _ hx
  have hne : (way = 3 ∧ calm = true) ∨ ¬ way = 3 := by
    by_cases e3 : way = 3
    · refine .inl ⟨e3, ?_⟩
      cases calm with
      | true => rfl
      | false => exact absurd ⟨e3, rfl⟩ cs
    · exact .inr e3
  rcases hne with ⟨e3, rfl⟩ | e3
  · have c7' : ¬ way > 7 := by omega
    wtm_at "go"
    rw [show (Int.toNat 1) = 1 from rfl]
    refine FOR.range (n := 1) (fun i σ H' => ∃ (v8 : Option V) (B' : Hp) (h' : Hh), σ = [some (.ref a), some (.ref dp), some (.int c), some (.bl true), some (.int key), some (.ref p2), some (.int way), some (.int 1), v8] ∧ Same B2 B' ∧ Vk D B' H' L a dp h' ht (n + i) (h.kv.length + i) ∧ h'.now = h.now + i ∧ h'.floor = h.floor ∧ Stay h h') ⟨none, B2, h, rfl, same_refl _, { hv with kl := Nat.le_refl _ }, by omega, rfl, Stay.refl h⟩ ?_ ?_
    · clear hv
      rintro i σ H5 hi ⟨v8, B5, h5, rfl, s5, hv, en, ef, st⟩
      have hkl5 := hv.kl
      rw [Int.zero_add]
      obtain ⟨dx, hoa⟩ := hv.ho.obj
      wtm_at "go"
      refine r_meth hoa rfl ?_
      wtm_at "go"
      refine ⟨_, _, _, rfl, a, h5, key + (i : Int), c % 10 ^ (9 : Int).toNat - i, n + i, B5, _, rfl, rfl, rfl, by omega, hv.ho, hv.le, by omega, by omega, fun B6 H6 h6 s6 ho e1 e2 e3 e4 e5 e6 e7 e8 e9 e10 hle => ?_⟩
      have hdp : H6 dp = some (.dK (dkP h5.kv)) := ho.get (List.mem_cons_self ..)
      wtm_at "go"
      refine r_dpu hdp (szlt (by rw [dkP_len]; omega)) ?_
      rw [dkP_put]
      have ho := pd_put ho (putP h5.kv (key + (i : Int)) (c % 10 ^ (9 : Int).toNat - i))
      have hpl := putP_le h5.kv (key + (i : Int)) (c % 10 ^ (9 : Int).toNat - i)
      have hvl5 := hv.hl
      obtain ⟨pk6, st6⟩ := hv.pk.deed (key := key + (i : Int)) (v := some (c % 10 ^ (9 : Int).toNat - i)) (by omega) e2 e3 e5 e8 e9 (fun k' => by rw [e1]; exact getP_putO _ _ _ k') (fun k' hk' => by
        rw [e1] at hk'
        by_cases ck : key + (i : Int) ∈ ksP h5.kv
        · rw [ksP_put_old ck] at hk'; exact hv.pk.nn k' hk'
        · rw [ksP_put_new ck] at hk'
          rcases List.mem_append.mp hk' with hk' | hk'
          · exact hv.pk.nn k' hk'
          · rw [List.mem_singleton.mp hk']; omega)
      wtm_at "go"
      exact ⟨_, B6, h6, rfl, same_trans s5 s6, ⟨by rw [e1]; exact ho, pk6, hle, by omega, by rw [e1]; omega⟩, by omega, by omega, fun mm kv hmm pm => st6 mm kv (by omega) (st mm kv hmm pm)⟩
    · rintro σ H5 ⟨v8, B5, h5, rfl, s5, hv5, en, ef, st⟩
      have hk5 := hv5.kl
      have hl5 := hv5.hl
      exact k B5 H5 h5 ht (same_trans s12 s5) ⟨hv5.ho, hv5.pk, Hh.le_mono hv5.le (by omega), by omega, by omega⟩ (by omega) (by omega) (fun _ h => h) fun mm kv hmm _ hfl pm => ⟨st mm kv hmm pm, by omega⟩
  by_cases c7 : way > 7
  rotate_left
  · wtm_at "go"
    rw [show (Int.toNat 1) = 1 from rfl]
    refine FOR.range (n := 1) (fun i σ H' => ∃ (v8 : Option V) (B' : Hp) (h' : Hh), σ = [some (.ref a), some (.ref dp), some (.int c), some (.bl calm), some (.int key), some (.ref p2), some (.int way), some (.int 1), v8] ∧ Same B2 B' ∧ Vk D B' H' L a dp h' ht (n + i) (h.kv.length + i) ∧ h'.now = h.now + i ∧ h'.floor = h.floor ∧ Stay h h') ⟨none, B2, h, rfl, same_refl _, { hv with kl := Nat.le_refl _ }, by omega, rfl, Stay.refl h⟩ ?_ ?_
    · clear hv
      rintro i σ H5 hi ⟨v8, B5, h5, rfl, s5, hv, en, ef, st⟩
      have hkl5 := hv.kl
      rw [Int.zero_add]
      obtain ⟨dx, hoa⟩ := hv.ho.obj
      wtm_at "go"
      refine r_meth hoa rfl ?_
      wtm_at "go"
      refine ⟨_, _, _, rfl, a, h5, key + (i : Int), c % 10 ^ (9 : Int).toNat - i, n + i, B5, _, rfl, rfl, rfl, by omega, hv.ho, hv.le, by omega, by omega, fun B6 H6 h6 s6 ho e1 e2 e3 e4 e5 e6 e7 e8 e9 e10 hle => ?_⟩
      have hdp : H6 dp = some (.dK (dkP h5.kv)) := ho.get (List.mem_cons_self ..)
      wtm_at "go"
      refine r_dpu hdp (szlt (by rw [dkP_len]; omega)) ?_
      rw [dkP_put]
      have ho := pd_put ho (putP h5.kv (key + (i : Int)) (c % 10 ^ (9 : Int).toNat - i))
      have hpl := putP_le h5.kv (key + (i : Int)) (c % 10 ^ (9 : Int).toNat - i)
      have hvl5 := hv.hl
      obtain ⟨pk6, st6⟩ := hv.pk.deed (key := key + (i : Int)) (v := some (c % 10 ^ (9 : Int).toNat - i)) (by omega) e2 e3 e5 e8 e9 (fun k' => by rw [e1]; exact getP_putO _ _ _ k') (fun k' hk' => by
        rw [e1] at hk'
        by_cases ck : key + (i : Int) ∈ ksP h5.kv
        · rw [ksP_put_old ck] at hk'; exact hv.pk.nn k' hk'
        · rw [ksP_put_new ck] at hk'
          rcases List.mem_append.mp hk' with hk' | hk'
          · exact hv.pk.nn k' hk'
          · rw [List.mem_singleton.mp hk']; omega)
      wtm_at "go"
      exact ⟨_, B6, h6, rfl, same_trans s5 s6, ⟨by rw [e1]; exact ho, pk6, hle, by omega, by rw [e1]; omega⟩, by omega, by omega, fun mm kv hmm pm => st6 mm kv (by omega) (st mm kv hmm pm)⟩
    · rintro σ H5 ⟨v8, B5, h5, rfl, s5, hv5, en, ef, st⟩
      have hk5 := hv5.kl
      have hl5 := hv5.hl
      exact k B5 H5 h5 ht (same_trans s12 s5) ⟨hv5.ho, hv5.pk, Hh.le_mono hv5.le (by omega), by omega, by omega⟩ (by omega) (by omega) (fun _ h => h) fun mm kv hmm _ hfl pm => ⟨st mm kv hmm pm, by omega⟩
  wtm_at "go"
  have hdk : H2 dp = some (.dK (dkP h.kv)) := hv.ho.get (List.mem_cons_self ..)
  refine r_lenD hdk ?_
  rw [dkP_len]
  by_cases c8 : ((h.kv.length : Nat) : Int) < 120
  rotate_left
  · wtm_at "go"
    rw [show (Int.toNat 1) = 1 from rfl]
    refine FOR.range (n := 1) (fun i σ H' => ∃ (v8 : Option V) (B' : Hp) (h' : Hh), σ = [some (.ref a), some (.ref dp), some (.int c), some (.bl calm), some (.int key), some (.ref p2), some (.int way), some (.int 1), v8] ∧ Same B2 B' ∧ Vk D B' H' L a dp h' ht (n + i) (h.kv.length + i) ∧ h'.now = h.now + i ∧ h'.floor = h.floor ∧ Stay h h') ⟨none, B2, h, rfl, same_refl _, { hv with kl := Nat.le_refl _ }, by omega, rfl, Stay.refl h⟩ ?_ ?_
    · clear hv
      rintro i σ H5 hi ⟨v8, B5, h5, rfl, s5, hv, en, ef, st⟩
      have hkl5 := hv.kl
      rw [Int.zero_add]
      obtain ⟨dx, hoa⟩ := hv.ho.obj
      wtm_at "go"
      refine r_meth hoa rfl ?_
      wtm_at "go"
      refine ⟨_, _, _, rfl, a, h5, key + (i : Int), c % 10 ^ (9 : Int).toNat - i, n + i, B5, _, rfl, rfl, rfl, by omega, hv.ho, hv.le, by omega, by omega, fun B6 H6 h6 s6 ho e1 e2 e3 e4 e5 e6 e7 e8 e9 e10 hle => ?_⟩
      have hdp : H6 dp = some (.dK (dkP h5.kv)) := ho.get (List.mem_cons_self ..)
      wtm_at "go"
      refine r_dpu hdp (szlt (by rw [dkP_len]; omega)) ?_
      rw [dkP_put]
      have ho := pd_put ho (putP h5.kv (key + (i : Int)) (c % 10 ^ (9 : Int).toNat - i))
      have hpl := putP_le h5.kv (key + (i : Int)) (c % 10 ^ (9 : Int).toNat - i)
      have hvl5 := hv.hl
      obtain ⟨pk6, st6⟩ := hv.pk.deed (key := key + (i : Int)) (v := some (c % 10 ^ (9 : Int).toNat - i)) (by omega) e2 e3 e5 e8 e9 (fun k' => by rw [e1]; exact getP_putO _ _ _ k') (fun k' hk' => by
        rw [e1] at hk'
        by_cases ck : key + (i : Int) ∈ ksP h5.kv
        · rw [ksP_put_old ck] at hk'; exact hv.pk.nn k' hk'
        · rw [ksP_put_new ck] at hk'
          rcases List.mem_append.mp hk' with hk' | hk'
          · exact hv.pk.nn k' hk'
          · rw [List.mem_singleton.mp hk']; omega)
      wtm_at "go"
      exact ⟨_, B6, h6, rfl, same_trans s5 s6, ⟨by rw [e1]; exact ho, pk6, hle, by omega, by rw [e1]; omega⟩, by omega, by omega, fun mm kv hmm pm => st6 mm kv (by omega) (st mm kv hmm pm)⟩
    · rintro σ H5 ⟨v8, B5, h5, rfl, s5, hv5, en, ef, st⟩
      have hk5 := hv5.kl
      have hl5 := hv5.hl
      exact k B5 H5 h5 ht (same_trans s12 s5) ⟨hv5.ho, hv5.pk, Hh.le_mono hv5.le (by omega), by omega, by omega⟩ (by omega) (by omega) (fun _ h => h) fun mm kv hmm _ hfl pm => ⟨st mm kv hmm pm, by omega⟩
  wtm_at "go"
  refine ⟨_, _, rfl, c, 5, rfl, rfl, by decide, ?_⟩
  wtm_at "go"
  obtain ⟨mm1, hmm1⟩ := Int.eq_ofNat_of_zero_le (show (0 : Int) ≤ 1 + drG c 5 % 30 by omega)
  rw [hmm1]
  rw [Int.toNat_natCast]
  refine FOR.range (n := mm1) (fun i σ H' => ∃ (v8 : Option V) (B' : Hp) (h' : Hh), σ = [some (.ref a), some (.ref dp), some (.int c), some (.bl calm), some (.int key), some (.ref p2), some (.int way), some (.int mm1), v8] ∧ Same B2 B' ∧ Vk D B' H' L a dp h' ht (n + i) (h.kv.length + i) ∧ h'.now = h.now + i ∧ h'.floor = h.floor ∧ Stay h h') ⟨none, B2, h, rfl, same_refl _, { hv with kl := Nat.le_refl _ }, by omega, rfl, Stay.refl h⟩ ?_ ?_
  · clear hv
    rintro i σ H5 hi ⟨v8, B5, h5, rfl, s5, hv, en, ef, st⟩
    have hkl5 := hv.kl
    rw [Int.zero_add]
    obtain ⟨dx, hoa⟩ := hv.ho.obj
    wtm_at "go"
    refine r_meth hoa rfl ?_
    wtm_at "go"
    refine ⟨_, _, _, rfl, a, h5, key + (i : Int), c % 10 ^ (9 : Int).toNat - i, n + i, B5, _, rfl, rfl, rfl, by omega, hv.ho, hv.le, by omega, by omega, fun B6 H6 h6 s6 ho e1 e2 e3 e4 e5 e6 e7 e8 e9 e10 hle => ?_⟩
    have hdp : H6 dp = some (.dK (dkP h5.kv)) := ho.get (List.mem_cons_self ..)
    wtm_at "go"
    refine r_dpu hdp (szlt (by rw [dkP_len]; omega)) ?_
    rw [dkP_put]
    have ho := pd_put ho (putP h5.kv (key + (i : Int)) (c % 10 ^ (9 : Int).toNat - i))
    have hpl := putP_le h5.kv (key + (i : Int)) (c % 10 ^ (9 : Int).toNat - i)
    have hvl5 := hv.hl
    obtain ⟨pk6, st6⟩ := hv.pk.deed (key := key + (i : Int)) (v := some (c % 10 ^ (9 : Int).toNat - i)) (by omega) e2 e3 e5 e8 e9 (fun k' => by rw [e1]; exact getP_putO _ _ _ k') (fun k' hk' => by
      rw [e1] at hk'
      by_cases ck : key + (i : Int) ∈ ksP h5.kv
      · rw [ksP_put_old ck] at hk'; exact hv.pk.nn k' hk'
      · rw [ksP_put_new ck] at hk'
        rcases List.mem_append.mp hk' with hk' | hk'
        · exact hv.pk.nn k' hk'
        · rw [List.mem_singleton.mp hk']; omega)
    wtm_at "go"
    exact ⟨_, B6, h6, rfl, same_trans s5 s6, ⟨by rw [e1]; exact ho, pk6, hle, by omega, by rw [e1]; omega⟩, by omega, by omega, fun mm kv hmm pm => st6 mm kv (by omega) (st mm kv hmm pm)⟩
  · rintro σ H5 ⟨v8, B5, h5, rfl, s5, hv5, en, ef, st⟩
    have hk5 := hv5.kl
    have hl5 := hv5.hl
    exact k B5 H5 h5 ht (same_trans s12 s5) ⟨hv5.ho, hv5.pk, Hh.le_mono hv5.le (by omega), by omega, by omega⟩ (by omega) (by omega) (fun _ h => h) fun mm kv hmm _ hfl pm => ⟨st mm kv hmm pm, by omega⟩

def sp__law_token (K : PySem.W.Frag) (D : Ad) : Sp := Sp2 fun x y H Q _ => ∃ (c : Int) (dp : Addr) (kv : Kv) (B : Hp) (L : List Cell), x = .int c ∧ y = .ref dp ∧ W B L H ∧ (dp, .dK (dkP kv)) ∈ L ∧ (∀ k ∈ ksP kv, 0 ≤ k) ∧ kv.length ≤ 9000 ∧
  ∀ (tk : Addr) (t : Tk) (B' H' : Hp), Same B B' → isUD t → t.ok → IsTk D B' tk t → W B' L H' → Q (.ref tk) H'
theorem ok__law_token {D : Ad} (T : Txt K mg D) : FnOk P w K mg base (L2.CX P w) 6 D.a__law_token D.d__law_token ["_law_cell", "_law_plain"] (sp__law_token K D) := by
  refine T.F__law_token.okX sc__law_token (fun vs H Q E h => sp2_len h) (fun cdv A outer s H vs Q E hr h => ⟨_, (pss_cons (ps_set (i := 2) sc__law_token.nd rfl (Or.inl rfl) (pe_op op_cat (pe_sortKeys rfl (pv 1) (by rfl) T.n_sorted bt_sorted) (pe_lst (pa_cons (pe_call (ok__law_key T) (hr.mono (by decide)) rfl T.g__law_key T.F__law_key.kp T.b__law_key .nil pX (pa_cons (pv 0) pa_nil)) pa_nil))))
    (pss_cons (ps_set (i := 3) sc__law_token.nd rfl (Or.inl rfl) (pe_ix ix_list (pv 2) (pe_op op_mod (pe_call (ok__law_drawn T) (hr.mono (by decide)) rfl T.g__law_drawn T.F__law_drawn.kp T.b__law_drawn .nil pX (pa_cons (pv 0) (pa_cons pe_int pa_nil))) (pe_callB call_lenZ (by rfl) T.n_len bt_len (pa_cons (pv 2) pa_nil))) (fun _ _ => rfl)))
    (pss_cons (ps_set (i := 4) sc__law_token.nd rfl (Or.inl rfl) (pe_op op_add (pe_ix ix_list (pv 2) (pe_op op_mod (pe_call (ok__law_drawn T) (hr.mono (by decide)) rfl T.g__law_drawn T.F__law_drawn.kp T.b__law_drawn .nil pX (pa_cons (pv 0) (pa_cons pe_int pa_nil))) (pe_callB call_lenZ (by rfl) T.n_len bt_len (pa_cons (pv 2) pa_nil))) (fun _ _ => rfl)) (pe_op op_mod (pe_call (ok__law_drawn T) (hr.mono (by decide)) rfl T.g__law_drawn T.F__law_drawn.kp T.b__law_drawn .nil pX (pa_cons (pv 0) (pa_cons pe_int pa_nil))) pe_int)))
    (pss_cons (ps_set (i := 5) sc__law_token.nd rfl (Or.inl rfl) (pe_op op_mod (pe_call (ok__law_drawn T) (hr.mono (by decide)) rfl T.g__law_drawn T.F__law_drawn.kp T.b__law_drawn .nil pX (pa_cons (pv 0) (pa_cons pe_int pa_nil))) pe_int))
    (pss_cons (ps_if (pt_cmpR op_eq (pv 5) pe_int (nomark _))
      (pss_one (ps_ret (pe_make0 T.mk_Up (ok_Up_init T) (hr.mono (by decide)) rfl T.g_Up (T.b_Up_init_2).choose_spec.2 (T.b_Up_init_2).choose_spec.1 pX)))
      pss_nil)
    (pss_cons (ps_if (pt_cmpR op_eq (pv 5) pe_int (nomark _))
      (pss_one (ps_ret (pe_make0 T.mk_Down (ok_Down_init T) (hr.mono (by decide)) rfl T.g_Down (T.b_Down_init_2).choose_spec.2 (T.b_Down_init_2).choose_spec.1 pX)))
      pss_nil)
    (pss_cons (ps_if (pt_cmpR op_eq (pv 5) pe_int (nomark _))
      (pss_one (ps_ret (pe_make T.mk_Up (ok_Up_init T) (hr.mono (by decide)) rfl T.g_Up (T.b_Up_init_1).choose_spec.2 (T.b_Up_init_1).choose_spec.1 pX (pa_cons (pv 3) pa_nil))))
      pss_nil)
    (pss_cons (ps_if (pt_cmpR op_eq (pv 5) pe_int (nomark _))
      (pss_one (ps_ret (pe_make T.mk_Down (ok_Down_init T) (hr.mono (by decide)) rfl T.g_Down (T.b_Down_init_1).choose_spec.2 (T.b_Down_init_1).choose_spec.1 pX (pa_cons (pv 3) pa_nil))))
      pss_nil)
    (pss_cons (ps_if (pt_cmpR op_eq (pv 5) pe_int (nomark _))
      (pss_one (ps_ret (pe_make T.mk_Up (ok_Up_init T) (hr.mono (by decide)) rfl T.g_Up T.b_Up_init .nil pX (pa_cons (pe_callB (call_min2Z rfl) (by rfl) T.n_min bt_min (pa_cons (pv 3) (pa_cons (pv 4) pa_nil))) (pa_cons (pe_callB (call_max2Z rfl) (by rfl) T.n_max bt_max (pa_cons (pv 3) (pa_cons (pv 4) pa_nil))) pa_nil)))))
      pss_nil)
    (pss_one (ps_ret (pe_make T.mk_Down (ok_Down_init T) (hr.mono (by decide)) rfl T.g_Down T.b_Down_init .nil pX (pa_cons (pe_callB (call_max2Z rfl) (by rfl) T.n_max bt_max (pa_cons (pv 3) (pa_cons (pv 4) pa_nil))) (pa_cons (pe_callB (call_min2Z rfl) (by rfl) T.n_min bt_min (pa_cons (pv 3) (pa_cons (pv 4) pa_nil))) pa_nil)))))))))))))), ?_⟩)
  obtain ⟨x0, x1, rfl, h⟩ := h
  rw [show L2.start n__law_token [x0, x1] = [some x0, some x1, none, none, none, none] from rfl]
  try dsimp only [cxOf]
  obtain ⟨c, dp, kv, B, L, rfl, rfl, w, hm, nn, hkl, k⟩ := h
  have hdk := w.get hm
  wtm_at "go"
  refine g_sortKeys ?_
  wtm_at "go"
  refine r_sortD w hdk (dkP_ks kv) fun ms p1 B1 H1 hpm hsr s1 i1 w => ?_
  have hml : ms.length ≤ 9000 := by rw [hpm.length_eq, ksP_len]; exact hkl
  wtm_at "go"
  refine ⟨_, rfl, c, B1, L, rfl, w, fun key B2 H2 s2 w k0 => ?_⟩
  wtm_at "go"
  refine d_lst w (szl (by simp)) fun p3 B3 H3 hp3 s3 i3 w => ?_
  have i1 := s3 _ _ (s2 _ _ i1)
  refine d_cat w (w.rd i1) (w.rd i3) (szl (by rw [List.length_map]; simp only [List.length_cons, List.length_nil]; omega)) fun p4 B4 H4 _ s4 i4 w => ?_
  have i4 : B4 p4 = some (.lst ((ms ++ [key]).map V.int)) := by rw [i4, List.map_append]; rfl
  have hall : ∀ x ∈ ms ++ [key], 0 ≤ x := fun x hx => by
    rcases List.mem_append.mp hx with hx | hx
    · exact nn x (hpm.mem_iff.mp hx)
    · rw [List.mem_singleton.mp hx]; exact k0
  have hlen : (0 : Int) < ((ms ++ [key]).length : Nat) := by rw [List.length_append, List.length_singleton]; omega
  generalize ms ++ [key] = ns at *
  have s14 := same_trans s1 (same_trans s2 (same_trans s3 s4))
  wtm_at "go"
  refine ⟨_, _, rfl, c, 6, rfl, rfl, by decide, ?_⟩
  wtm_at "go"
  refine r_lenL (SqL.of (w.rd i4)) ?_
  rw [List.length_map]
  wtm_at "go"
  obtain ⟨v1, hv1, e1⟩ := atI_ex (ns := ns) (i := drG c 6 % ((ns.length : Nat) : Int)) (Int.emod_nonneg _ (Int.ne_of_gt hlen)) (Int.emod_lt_of_pos _ hlen)
  refine r_ixL (SqL.of (w.rd i4)) e1 ?_
  have h1 := hall v1 hv1
  wtm_at "go"
  refine ⟨_, _, rfl, c, 7, rfl, rfl, by decide, ?_⟩
  wtm_at "go"
  refine r_lenL (SqL.of (w.rd i4)) ?_
  rw [List.length_map]
  wtm_at "go"
  obtain ⟨v2, hv2, e2⟩ := atI_ex (ns := ns) (i := drG c 7 % ((ns.length : Nat) : Int)) (Int.emod_nonneg _ (Int.ne_of_gt hlen)) (Int.emod_lt_of_pos _ hlen)
  refine r_ixL (SqL.of (w.rd i4)) e2 ?_
  have h2 := hall v2 hv2
  wtm_at "go"
  refine ⟨_, _, rfl, c, 8, rfl, rfl, by decide, ?_⟩
  have n8 := drG_nn c 8
  have n9 := drG_nn c 9
  wtm_at "go"
  refine ⟨_, _, rfl, c, 9, rfl, rfl, by decide, ?_⟩
  wtm_at "go"
  generalize hot : v2 + drG c 8 % 2 = ot at *
  have h3 : 0 ≤ ot := by omega
  have hw6 : drG c 9 % 6 = 0 ∨ drG c 9 % 6 = 1 ∨ drG c 9 % 6 = 2 ∨ drG c 9 % 6 = 3 ∨ drG c 9 % 6 = 4 ∨ drG c 9 % 6 = 5 := by omega
  generalize drG c 9 % 6 = way at *
  rcases hw6 with rfl | rfl | rfl | rfl | rfl | rfl
  · wtm_at "go"
    exact mk_up (l := 0) (h := none) rfl w ⟨Int.le_refl _, nofun⟩ fun tk B5 H5 s5 itk w => k tk (.up 0 none) B5 H5 (same_trans s14 s5) trivial ⟨Int.le_refl _, nofun⟩ itk w
  · wtm_at "go"
    exact mk_dn (l := none) (h := 0) rfl w ⟨Int.le_refl _, nofun⟩ fun tk B5 H5 s5 itk w => k tk (.dn none 0) B5 H5 (same_trans s14 s5) trivial ⟨Int.le_refl _, nofun⟩ itk w
  · wtm_at "go"
    exact mk_up (l := v1) (h := none) rfl w ⟨h1, nofun⟩ fun tk B5 H5 s5 itk w => k tk (.up v1 none) B5 H5 (same_trans s14 s5) trivial ⟨h1, nofun⟩ itk w
  · wtm_at "go"
    exact mk_dn (l := some v1) (h := 0) rfl w ⟨Int.le_refl _, fun n e => by cases e; exact h1⟩ fun tk B5 H5 s5 itk w => k tk (.dn (some v1) 0) B5 H5 (same_trans s14 s5) trivial ⟨Int.le_refl _, fun n e => by cases e; exact h1⟩ itk w
  · wtm_at "go"
    refine ⟨_, _, rfl, ?_⟩
    generalize elo : (if ot < v1 then ot else v1) = lo
    wtm_at "go"
    refine ⟨_, _, rfl, ?_⟩
    generalize ehi : (if ot > v1 then ot else v1) = hi
    have hl : 0 ≤ lo ∧ lo ≤ hi := by subst elo ehi; split <;> split <;> omega
    have ok : (Tk.up lo (some hi)).ok := ⟨hl.1, fun n e => by cases e; exact hl.2⟩
    wtm_at "go"
    exact mk_up (l := lo) (h := some hi) rfl w ok fun tk B5 H5 s5 itk w => k tk (.up lo (some hi)) B5 H5 (same_trans s14 s5) trivial ok itk w
  · wtm_at "go"
    refine ⟨_, _, rfl, ?_⟩
    generalize ehi : (if ot > v1 then ot else v1) = hi
    wtm_at "go"
    refine ⟨_, _, rfl, ?_⟩
    generalize elo : (if ot < v1 then ot else v1) = lo
    have hl : 0 ≤ lo ∧ lo ≤ hi := by subst elo ehi; split <;> split <;> omega
    have ok : (Tk.dn (some hi) lo).ok := ⟨hl.1, fun n e => by cases e; exact hl.2⟩
    wtm_at "go"
    exact mk_dn (l := some hi) (h := lo) rfl w ok fun tk B5 H5 s5 itk w => k tk (.dn (some hi) lo) B5 H5 (same_trans s14 s5) trivial ok itk w

theorem cutT {ts : List Addr} (n : Nat) : cutV (ts.map V.ref) none (some (n : Int)) = (ts.take n).map V.ref := by
  unfold cutV
  rw [show HT.sIx (ts.map V.ref).length (ts.map V.ref).length (some (n : Int)) = min n (ts.map V.ref).length from HT.sIx_nat _ _ _, show HT.sIx (ts.map V.ref).length 0 none = 0 from rfl, List.drop_zero, Nat.sub_zero, List.length_map, ← List.map_take]
  by_cases c : n ≤ ts.length
  · rw [Nat.min_eq_left c]
  · rw [Nat.min_eq_right (by omega), List.take_length, List.take_of_length_le (by omega)]
theorem TP.take {B : Hp} {ts : List Addr} {ps : Kv} (h : TP B ts ps) (n : Nat) : TP B (ts.take n) (ps.take n) := h.sub n
theorem TP.drop {B : Hp} {ts : List Addr} {ps : Kv} (h : TP B ts ps) (n : Nat) : TP B (ts.drop n) (ps.drop n) :=
  ⟨fun t ht => h.all t (List.mem_of_mem_drop ht), by rw [h.eq, List.map_drop]⟩
theorem dueT_len (kv : Kv) (t : Tk) : (dueT kv t).length = (dueK kv t).length := by rw [← due_row, List.length_map]
theorem dueT_next {kv : Kv} {t : Tk} {many : Nat} (nd : (ksP kv).Nodup) (nn : ∀ k ∈ ksP kv, 0 ≤ k) (ud : isUD t) (h1 : 1 ≤ many) (h2 : many < (dueT kv t).length) : dueT kv (behT ((dueK kv t).getD (many - 1) 0) t) = (dueT kv t).drop many := by
  rw [dueT_len] at h2
  rw [← due_row, due_next nd nn ud h1 h2, List.map_drop, due_row]
theorem beh_ud {t : Tk} {k : Int} (h : isUD t) : isUD (behT k t) := by
  cases t with
  | sl l h2 => exact h.elim
  | up l h2 => trivial
  | dn l h2 => trivial
theorem atI_neg2 {xs : List V} {v z : V} {n : Nat} (h : xs[n]? = some v) (hl : xs.length = n + 1) : atI (xs ++ [z]) (-2) = some v := by
  have e : ixN (xs ++ [z]).length (-2) = some n := by
    rw [List.length_append, List.length_singleton, hl]
    unfold ixN
    rw [if_neg (by omega)]
    first
      | (rw [if_pos (by omega)]; congr 1; omega)
      | (simp; omega)
  unfold atI
  rw [e]
  show (xs ++ [z])[n]? = some v
  rw [List.getElem?_append_left (by omega)]
  exact h
theorem dueT_at {kv : Kv} {t : Tk} {i : Nat} (h : i < (dueK kv t).length) : (dueT kv t)[i]? = some ((dueK kv t).getD i 0, (getP kv ((dueK kv t).getD i 0)).getD 0) := by
  rw [← due_row, List.getElem?_map, List.getD_eq_getElem?_getD, List.getElem?_eq_getElem h]
  rfl
theorem cutD {ts : List Addr} (n : Nat) : cutV (ts.map V.ref) (some (n : Int)) none = (ts.drop n).map V.ref := by
  unfold cutV
  rw [show HT.sIx (ts.map V.ref).length 0 (some (n : Int)) = min n (ts.map V.ref).length from HT.sIx_nat _ _ _, show HT.sIx (ts.map V.ref).length (ts.map V.ref).length none = (ts.map V.ref).length from rfl, List.length_map]
  by_cases c : n ≤ ts.length
  · rw [Nat.min_eq_left c, ← List.map_drop]
    exact List.take_of_length_le (by rw [List.length_map, List.length_drop]; exact Nat.le_refl _)
  · rw [Nat.min_eq_right (by omega), List.drop_eq_nil_of_le (as := ts) (by omega), Nat.sub_self, List.take_zero]
    rfl
theorem Pk.go {h : Hh} {ht : Kv} {m : Int} (i : Pk h ht) (hm : m ∈ ksP ht) : Pk (h.hold (goP ht m)) (goP ht m) :=
  ⟨i.ri, i.no, i.nk, i.cu, i.nn, rfl, i.f0, i.fn, fun x hx => i.hf x (goP_sub hm hx), fun x hx => i.hn x (goP_sub hm hx), goP_pos hm i.hp⟩
theorem Hh.le_go {h : Hh} {ht : Kv} {m : Int} {n : Nat} (l : h.le n) (hm : m ∈ ksP ht) (hl : ht.length ≤ n) : (h.hold (goP ht m)).le n :=
  ⟨l.1, l.2.1, l.2.2.1, by show (dkP (goP ht m)).length ≤ n; rw [dkP_len]; exact Nat.le_trans (goP_le ht m hm) hl⟩
def Sp6 (φ : V → V → V → V → V → V → Hp → VK → XK → Prop) : Sp := fun vs H Q E => ∃ x y z u v w, vs = [x, y, z, u, v, w] ∧ φ x y z u v w H Q E
theorem sp6_len {φ} {vs : List V} {H : Hp} {Q : VK} {E : XK} (h : Sp6 φ vs H Q E) : vs.length = 6 := by obtain ⟨x, y, z, u, v, w, rfl, _⟩ := h; rfl
def sp__law_walked (K : PySem.W.Frag) (D : Ad) : Sp := Sp6 fun x y z u v w H Q _ => ∃ (a pd tk cp : Addr) (h : Hh) (ht : Kv) (t : Tk) (cs : List Int) (way : Int) (n m : Nat) (B : Hp) (L : List Cell), x = .ref a ∧ y = .ref pd ∧ z = .int h.now ∧ u = .ref tk ∧ v = .ref cp ∧ w = .int way ∧ Vk D B H L a pd h ht n (150 + m) ∧ n ≤ 700 ∧ m ≤ 30 ∧ 0 ≤ way ∧ (way ≠ 1 → h.now ∈ ksP ht) ∧ h.now ≤ 700 ∧
  SqL K B cp (cs.map V.int) ∧ cs ≠ [] ∧ cs.length ≤ 63 ∧ IsTk D B tk t ∧ isUD t ∧ t.ok ∧
  ∀ B' H' h' ht' L', Same B B' → Ho D B' H' L' a h' → Pk h' ht' → h'.le 8000 → ht'.length ≤ 8000 → h'.kv.length ≤ 800 → h.now ≤ h'.now → h'.now ≤ 800 → Q (.bl true) H'
theorem ok__law_walked {D : Ad} (T : Txt K mg D) : FnOk P w K mg base (L2.CX P w) 9 D.a__law_walked D.d__law_walked ["_law_house", "_law_plain", "_law_moment", "_law_token_here", "_law_cells", "_law_way"] (sp__law_walked K D) := by
  refine T.F__law_walked.okX sc__law_walked (fun vs H Q E h => sp6_len h) (fun cdv A outer s H vs Q E hr h => ⟨_, (pss_cons (ps_set (i := 6) sc__law_walked.nd rfl (Or.inl rfl) (pe_call (ok__law_due T) (hr.mono (by decide)) rfl T.g__law_due T.F__law_due.kp T.b__law_due .nil pX (pa_cons (pv 3) (pa_cons (pv 1) pa_nil))))
    (pss_cons (ps_set (i := 7) sc__law_walked.nd rfl (Or.inl rfl) (pe_callTy call_dictZ (by rfl) T.n_dict bt_dict (pa_cons (pv 1) pa_nil)))
    (pss_cons (ps_for (passes_of rfl) rfl (pi_range1 (by rfl) T.n_range (pa_cons (pe_op op_add (pe_callB call_lenZ (by rfl) T.n_len bt_len (pa_cons (pv 6) pa_nil)) pe_int) pa_nil)) (pg_name (i := 8) sc__law_walked.nd rfl (Or.inl rfl))
      (pss_cons (ps_set (i := 9) sc__law_walked.nd rfl (Or.inl rfl) (pe_op op_add pe_int (pe_op op_mod (pe_call (ok__law_drawn T) (hr.mono (by decide)) rfl T.g__law_drawn T.F__law_drawn.kp T.b__law_drawn .nil pX (pa_cons (pe_ix ix_list (pv 4) (pe_op op_mod (pv 8) (pe_callB call_lenZ (by rfl) T.n_len bt_len (pa_cons (pv 4) pa_nil))) (fun _ _ => rfl)) (pa_cons pe_int pa_nil))) pe_int)))
      (pss_cons (ps_set (i := 10) sc__law_walked.nd rfl (Or.inl rfl) (pe_call (ok__law_page T) (hr.mono (by decide)) rfl T.g__law_page T.F__law_page.kp T.b__law_page .nil pX (pa_cons (pv 0) (pa_cons (pv 2) (pa_cons (pv 3) (pa_cons (pv 9) pa_nil))))))
      (pss_cons (ps_if (PW.pt (pw_or (pt_not (pt_val (pe_callB call_isi (by rfl) T.n_isinstance bt_isinstance (pa_cons (pv 10) (pa_cons (pe_bltn (v := .ty "tuple") (by rfl) T.n_tuple bt_tuple rfl) pa_nil))))) (pw_or (pt_cmpR op_ne (pe_callB call_lenZ (by rfl) T.n_len bt_len (pa_cons (pv 10) pa_nil)) pe_int (nomark _)) (pw_or1 (pt_cmpR (op_neD hr.units) (pe_ix ix_tup (pv 10) pe_int (fun _ _ => rfl)) (pe_slice sl_list (pv 6) po_none (po_some (pv 9))) (nomark _))))))
        (pss_one (ps_ret pe_bl))
        pss_nil)
      (pss_cons (ps_expr (pe_bm PySem.F.plainAttrs_list PySem.F.slot_list_append PySem.F.type_list_append mt_append (pe_ix ix_tup (pv 10) pe_int (fun _ _ => rfl)) (pa_cons (pe_tup (pa_cons pe_int (pa_cons pe_int pa_nil))) pa_nil)))
      (pss_cons (ps_if (pt_cmpR (op_neD hr.units) (pe_ix ix_tup (pe_call (ok__law_page T) (hr.mono (by decide)) rfl T.g__law_page T.F__law_page.kp T.b__law_page .nil pX (pa_cons (pv 0) (pa_cons (pv 2) (pa_cons (pv 3) (pa_cons (pv 9) pa_nil))))) pe_int (fun _ _ => rfl)) (pe_slice sl_list (pv 6) po_none (po_some (pv 9))) (nomark _))
        (pss_one (ps_ret pe_bl))
        pss_nil)
      (pss_cons (ps_set (i := 6) sc__law_walked.nd rfl (Or.inl rfl) (pe_slice sl_list (pv 6) (po_some (pv 9)) po_none))
      (pss_cons (ps_if (pt_cmpR (op_eqD hr.units) (pv 6) (pe_lst pa_nil) (nomark _))
        (pss_one (ps_ret (pe_cmpR op_isNo (pe_ix ix_tup (pv 10) pe_int (fun _ _ => rfl)) pe_non (nomark _))))
        pss_nil)
      (pss_cons (ps_if (pt_not (pt_val (pe_call (ok__law_next T) (hr.mono (by decide)) rfl T.g__law_next T.F__law_next.kp T.b__law_next .nil pX (pa_cons (pv 3) (pa_cons (pe_ix ix_tup (pv 10) pe_int (fun _ _ => rfl)) (pa_cons (pe_ix ix_tup (pe_ix ix_list (pe_ix ix_tup (pv 10) pe_int (fun _ _ => rfl)) (pe_un un_neg pe_int) (fun _ _ => rfl)) pe_int (fun _ _ => rfl)) pa_nil))))))
        (pss_one (ps_ret pe_bl))
        pss_nil)
      (pss_cons (ps_set (i := 3) sc__law_walked.nd rfl (Or.inl rfl) (pe_ix ix_tup (pv 10) pe_int (fun _ _ => rfl)))
      (pss_cons (ps_if (PW.pt (pw_and (pt_cmpR op_eq (pv 5) pe_int (nomark _)) (pw_and1 (pt_cmpR op_eq (pv 8) pe_int (nomark _)))))
        (pss_one (ps_expr (pe_meth (pv 0) T.cl_House T.me_House_let_go (ok_House_let_go T) (hr.mono (by decide)) T.b_House_let_go .nil pX (pa_cons (pv 2) pa_nil))))
        pss_nil)
      (pss_one (ps_if (pt_cmpR op_lt (pe_fld (pv 0) rfl) pe_int (nomark _))
        (pss_one (ps_expr (pe_call (ok__law_deed T) (hr.mono (by decide)) rfl T.g__law_deed T.F__law_deed.kp T.b__law_deed .nil pX (pa_cons (pv 0) (pa_cons (pv 7) (pa_cons (pe_ix ix_list (pv 4) (pe_op op_mod (pv 8) (pe_callB call_lenZ (by rfl) T.n_len bt_len (pa_cons (pv 4) pa_nil))) (fun _ _ => rfl)) (pa_cons (pe_cmpR op_gt (pv 5) pe_int (nomark _)) pa_nil)))))))
        pss_nil)))))))))))))
    (pss_one (ps_ret pe_bl))))), ?_⟩)
  obtain ⟨x0, x1, x2, x3, x4, x5, rfl, h⟩ := h
  rw [show L2.start n__law_walked [x0, x1, x2, x3, x4, x5] = [some x0, some x1, some x2, some x3, some x4, some x5, none, none, none, none, none] from rfl]
  try dsimp only [cxOf]
  obtain ⟨a, pd, tk, cp, h, ht, t, cs, way, n, m, B, L, rfl, rfl, rfl, rfl, rfl, rfl, hv, hn, hm, hw0, hway, hnow, hcs, hce, hcl, itk, hud, hok, k⟩ := h
  have ndk := hv.ho.si.nd
  have hpk := hv.pk
  have hkl := hv.kl
  have hle0 := hv.le
  have hl0 := hv.hl
  have pm := hpk.now ndk
  obtain ⟨R, w, back⟩ := Ho.out (X := [(pd, .dK (dkP h.kv))]) hv.ho
  wtm_at "go"
  refine ⟨_, _, rfl, tk, pd, t, h.kv, B, _, rfl, rfl, hud, itk, w, List.mem_cons_self .., ndk, hpk.nn, by omega, fun p1 ts B1 H1 s1 i1 tp w => ?_⟩
  wtm_at "go"
  refine r_dictD w (w.get (List.mem_cons_self ..)) fun bd H2 hbd w => ?_
  have ho := back B1 H2 [(bd, .dK (dkP h.kv)), (pd, .dK (dkP h.kv))] s1 w
  wtm_at "go"
  refine r_lenL (SqL.of (w.rd i1)) ?_
  have htl : ts.length ≤ 150 + m := by
    rw [tp.len, dueT_len]
    exact Nat.le_trans (dueK_len _ _) hkl
  have hll := tp.len
  rw [List.length_map]
  wtm_at "go"
  rw [show (((ts.length : Nat) : Int) + 1).toNat = ts.length + 1 from by omega]
  clear w back hv hbd
  generalize hN : ts.length = N at *
  refine FOR.range (n := N + 1) (fun i σ H' => ∃ (v8 v9 v10 : Option V) (tk' p' : Addr) (t' : Tk) (us : List Addr) (B' : Hp) (h' : Hh) (ht' : Kv), σ = [some (.ref a), some (.ref pd), some (.int h.now), some (.ref tk'), some (.ref cp), some (.int way), some (.ref p'), some (.ref bd), v8, v9, v10] ∧ Same B1 B' ∧ Vk D B' H' ((pd, .dK (dkP h.kv)) :: L) a bd h' ht' (n + 30 * i) (150 + (m + i)) ∧ IsTk D B' tk' t' ∧ isUD t' ∧ t'.ok ∧ B' p' = some (.lst (us.map V.ref)) ∧ TP B' us (dueT h.kv t') ∧ us.length + i ≤ N ∧ Pm h' h.now h.kv ∧ h'.floor ≤ h.now ∧ h.now ≤ h'.now ∧ h'.now ≤ 740 ∧ (way = 0 → h.now ∈ ksP ht') ∧ (way ≠ 1 → i = 0 → h.now ∈ ksP ht')) ⟨none, none, none, tk, p1, t, ts, B1, h, ht, rfl, same_refl _, ⟨ho, hpk, by exact hle0, by omega, by omega⟩, itk.mono s1, hud, hok, i1, tp, by omega, pm, hpk.fn, Int.le_refl _, by omega, fun e => hway (by omega), fun e _ => hway e⟩ ?_ ?_
  rotate_left
  · rintro σ H3 ⟨v8, v9, v10, tk', p', t', us, B', h', ht', rfl, s3, hv, it', hud', hok', ip', tp', hlen, _⟩
    omega
  clear ho i1 tp itk hud hok
  rintro i σ H3 hi ⟨v8, v9, v10, tk, p1, t, ts, B3, h3, ht3, rfl, s3, hv, itk, hud, hok, i1, tp, hlen, pm3, hfl, hnw, hn7, hw1, hw2⟩
  wtm_at "go"
  rw [Int.zero_add]
  have hcs3 : SqL K H3 cp (cs.map V.int) := by
    obtain ⟨A, w, _⟩ := hv.mv
    exact w.sq (Z.Same.sq (same_trans s1 s3) hcs)
  refine r_lenL hcs3 ?_
  rw [List.length_map]
  have hcl0 : (0 : Int) < (cs.length : Nat) := by have := List.length_pos_iff.mpr hce; omega
  wtm_at "go"
  obtain ⟨c, hcm, ec⟩ := atI_ex (ns := cs) (i := (i : Int) % ((cs.length : Nat) : Int)) (Int.emod_nonneg _ (Int.ne_of_gt hcl0)) (Int.emod_lt_of_pos _ hcl0)
  refine r_ixL hcs3 ec ?_
  wtm_at "go"
  refine ⟨_, _, rfl, c, 10, rfl, rfl, by decide, ?_⟩
  have nd10 := drG_nn c 10
  wtm_at "go"
  obtain ⟨mn, hmn⟩ := Int.eq_ofNat_of_zero_le (show (0 : Int) ≤ 1 + drG c 10 % 10 by omega)
  rw [hmn]
  have hm1 : 1 ≤ mn := by omega
  clear hmn nd10
  wtm_at "go"
  refine ⟨_, _, _, _, rfl, a, tk, h3, h.now, mn, n + 30 * i, t, h.kv, B3, _, rfl, rfl, rfl, rfl, hm1, hv.ho, hv.le, by omega, hfl, hnw, itk, hud, hok, pm3, hv.pk.nk, fun p B4 H4 s4 ho4 pg => ?_⟩
  obtain ⟨q, x, us, hqn, ip, iq, tpu, hx⟩ := pg
  have ho5 := Ho.take hv.ho ho4 s4 hqn iq
  have s5 := delH_same s4 hqn
  have ip5 : delH B4 q p = some (.tup [.ref q, x]) := by
    rw [delH_ne (fun e => by rw [e, iq] at ip; cases ip)]
    exact ip
  have tpu := TP.del tpu iq
  have hx5 : ((dueT h.kv t).length ≤ mn ∧ x = .non) ∨ (mn < (dueT h.kv t).length ∧ ∃ v, x = .ref v ∧ (behT ((dueK h.kv t).getD (mn - 1) 0) t).ok ∧ IsTk D (delH B4 q) v (behT ((dueK h.kv t).getD (mn - 1) 0) t)) := by
    rcases hx with hx | ⟨hx1, v, hx2, hx3, hx4⟩
    · exact .inl hx
    · exact .inr ⟨hx1, v, hx2, hx3, hx4.del iq⟩
  have i1 := s5 _ _ i1
  have tp := tp.mono s5
  have itk := itk.mono s5
  clear hx ip ho4 iq
  generalize delH B4 q = B5 at *
  have hulen : us.length = ((dueT h.kv t).take mn).length := tpu.len
  obtain ⟨A, w, back⟩ := ho5.mv
  wtm_at "go"
  refine r_isi (.base (.tup (w.rd ip5))) kb_tup_tup ?_
  wtm_at "go"
  refine r_lenT (SqT.of (w.rd ip5)) ?_
  wtm_at "go"
  refine d_slL w (SqL.of (w.rd i1)) fun p6 B6 H6 hp6 s6 i6 w => ?_
  rw [cutT] at i6
  have ho := back _ _ s6 w
  have tpu := tpu.mono s6
  have ip5 := s6 _ _ ip5
  have hq6 := ho.get (List.mem_cons_self ..)
  refine r_neLP (tpu.w w) (SqL.of hq6) (((tp.mono s6).sub mn).w w) (SqL.of (w.rd i6)) ?_
  rw [decide_eq_true rfl]
  wtm_at "go"
  refine r_bmL (SqL.of hq6) ?_
  wtm_at "go"
  refine d_tup w (szl (by simp)) fun p7 B7 H7 hp7 s7 i7 w => ?_
  have ho := back _ _ (same_trans s6 s7) w
  have hq7 := ho.get (List.mem_cons_self ..)
  have hus : us.length ≤ 180 := by rw [hulen, List.length_take, ← tp.len]; omega
  wtm_at "go"
  refine r_append hq7 (szlt (by rw [List.length_map]; omega)) ?_
  have e8 : us.map V.ref ++ [V.ref p7] = (us ++ [p7]).map V.ref := by rw [List.map_append]; rfl
  rw [e8]
  obtain ⟨R8, w8, back8⟩ := Ho.out (X := [(q, .lst (us.map V.ref))]) ho
  have ho := back8 B7 _ [(q, .lst ((us ++ [p7]).map V.ref))] (same_refl _) (W.put0 w8 _)
  generalize upd H7 q (.lst ((us ++ [p7]).map V.ref)) = H8 at *
  clear w8 back8 w back hq6 hq7
  have s37 : Same B5 B7 := same_trans s6 s7
  have ip5 := s7 _ _ ip5
  have ip8 : H8 p = some (.tup [.ref q, x]) := by
    obtain ⟨A, w, _⟩ := ho.mv
    exact w.rd ip5
  wtm_at "go"
  refine ⟨_, _, _, _, rfl, a, tk, h3, h.now, mn, n + 30 * i, t, h.kv, B7, _, rfl, rfl, rfl, rfl, hm1, ho, hv.le, by omega, hfl, hnw, itk.mono s37, hud, hok, pm3, hv.pk.nk, fun p9 B9 H9 s9 ho pg => ?_⟩
  obtain ⟨q9, x9, us9, _, ip9, iq9, tpu9, _⟩ := pg
  obtain ⟨A, w, back⟩ := ho.mv
  wtm_at "go"
  have s59 := same_trans s37 s9
  refine d_slL w (SqL.of (w.rd (s59 _ _ i1))) fun p10 B10 H10 hp10 s10 i10 w => ?_
  rw [cutT] at i10
  have s510 := same_trans s59 s10
  have tp10 := tp.mono s510
  have i1 := s510 _ _ i1
  refine r_neLP ((tpu9.mono s10).w w) (SqL.of (w.rd (s10 _ _ iq9))) ((tp10.sub mn).w w) (SqL.of (w.rd i10)) ?_
  rw [decide_eq_true rfl]
  wtm_at "go"
  refine d_slL w (SqL.of (w.rd i1)) fun p11 B11 H11 hp11 s11 i11 w => ?_
  rw [cutD] at i11
  wtm_at "go"
  refine d_lst w (szl (by simp)) fun p12 B12 H12 hp12 s12 i12 w => ?_
  have i11 := s12 _ _ i11
  have s512 := same_trans s510 (same_trans s11 s12)
  have tp12 := TP.drop (tp.mono s512) mn
  have ho := back _ _ (same_trans s10 (same_trans s11 s12)) w
  refine r_eqLP (tp12.w w) (SqL.of (w.rd i11)) (TP.nil (B := H12)) (SqL.of (w.rd i12)) ?_
  have s712 := same_trans (same_trans s9 s10) (same_trans s11 s12)
  have ip12 := s712 _ _ ip5
  have hq12 := ho.get (List.mem_cons_self ..)
  have s012 : Same B B12 := same_trans s1 (same_trans s3 (same_trans s5 s512))
  have itk := itk.mono s512
  have hll : (dueT h.kv t).length ≤ 180 := by have := tp.len; omega
  by_cases c0 : (dueT h.kv t).drop mn = []
  · rw [decide_eq_true c0]
    rcases hx5 with ⟨_, rfl⟩ | ⟨hx1, _⟩
    rotate_left
    · have := congrArg List.length c0
      rw [List.length_drop, List.length_nil] at this
      omega
    wtm_at "go"
    have hle3 := hv.le
    have hl3 := hv.hl
    have hk3 := hv.kl
    exact k B12 H12 h3 ht3 _ s012 ho hv.pk (Hh.le_mono hle3 (by omega)) (by omega) (by omega) hnw (by omega)
  have hlt : mn < (dueT h.kv t).length := Nat.lt_of_not_le fun e => c0 (List.drop_eq_nil_of_le e)
  rw [decide_eq_false c0]
  rcases hx5 with ⟨hx1, _⟩ | ⟨_, v, rfl, hbo, itv⟩
  · omega
  have itv := itv.mono (same_trans s37 s712)
  wtm_at "go"
  have hl9 : us.length = mn := by rw [hulen, List.length_take]; omega
  obtain ⟨ua, hua⟩ : ∃ ua, us[mn - 1]? = some ua := ⟨_, List.getElem?_eq_getElem (by omega)⟩
  obtain ⟨pp, hpp, hat⟩ := tpu.at hua
  have hdk : mn - 1 < (dueK h.kv t).length := by rw [dueT_len] at hlt; omega
  rw [List.getElem?_take_of_lt (by omega), dueT_at hdk] at hpp
  obtain rfl := Option.some.inj hpp
  have hat := (same_trans s7 s712) _ _ hat
  have hix : atI ((us ++ [p7]).map V.ref) (-2) = some (.ref ua) := by
    rw [List.map_append]
    exact atI_neg2 (n := mn - 1) (by rw [List.getElem?_map, hua]; rfl) (by rw [List.length_map]; omega)
  refine r_ixL (SqL.of hq12) hix ?_
  obtain ⟨A2, w2, _⟩ := ho.mv
  have ha12 := w2.rd hat
  wtm_at "go"
  refine ⟨_, _, _, rfl, tk, v, t, _, rfl, rfl, rfl, hud, itk.mono w2.sub, itv.mono w2.sub, ?_⟩
  wtm_at "g0"
  obtain ⟨R3, w3, back3⟩ := Ho.out (X := [(q, .lst ((us ++ [p7]).map V.ref))]) ho
  have hv : Vk D B12 H12 ((pd, .dK (dkP h.kv)) :: L) a bd h3 ht3 (n + 30 * i) (150 + (m + i)) := { hv with ho := back3 B12 H12 [] (same_refl _) w3.drop1 }
  clear w3 back3 ho w2 back ha12
  have i11 := i11
  have tk_next := dueT_next pm.nd pm.nn hud hm1 hlt
  have hud2 : isUD (behT ((dueK h.kv t).getD (mn - 1) 0) t) := beh_ud hud
  have hl12 : (ts.drop mn).length + (i + 1) ≤ N := by rw [List.length_drop]; have := tp.len; omega
  generalize behT ((dueK h.kv t).getD (mn - 1) 0) t = t2 at *
  rw [← tk_next] at tp12
  generalize ts.drop mn = ts2 at *
  refine g_ifJ (fun σ H' => ∃ (h4 : Hh) (ht4 : Kv), σ = [some (.ref a), some (.ref pd), some (.int h.now), some (.ref v), some (.ref cp), some (.int way), some (.ref p11), some (.ref bd), some (.int (i : Nat)), some (.int mn), some (.ref p)] ∧ Vk D B12 H' ((pd, .dK (dkP h.kv)) :: L) a bd h4 ht4 (n + 30 * i) (150 + (m + i)) ∧ Pm h4 h.now h.kv ∧ h4.floor ≤ h.now ∧ h.now ≤ h4.now ∧ h4.now ≤ 740 ∧ (way = 0 → h.now ∈ ksP ht4)) ?_ ?_
  rotate_left
  · intro Nx hN
    by_cases c2 : way = 2 ∧ i = 0
    · obtain ⟨cw, ci⟩ := c2
      have ci2 : (i : Int) = 0 := by omega
      have hmm := hw2 (by omega) ci
      obtain ⟨dx, hoa⟩ := hv.ho.obj
      have hpk3 := hv.pk
      have hl3 := hv.hl
      wtm_at "go"
      refine r_meth hoa rfl ?_
      wtm_at "go"
      refine ⟨_, _, rfl, a, h3, ht3, h.now, B12, _, rfl, rfl, hv.ho, hpk3.hs, by omega, .inl ⟨hmm, fun H5 ho => ?_⟩⟩
      wtm_at "go"
      have hgl := goP_le ht3 h.now hmm
      exact hN _ _ ⟨h3.hold (goP ht3 h.now), goP ht3 h.now, rfl, ⟨ho, hpk3.go hmm, Hh.le_go hv.le hmm hl3, by omega, hv.kl⟩, ⟨pm3.va, pm3.nd, pm3.nn⟩, hfl, hnw, hn7, fun e => by omega⟩
    · have hJ : ∃ (h4 : Hh) (ht4 : Kv), [some (V.ref a), some (.ref pd), some (.int h.now), some (.ref v), some (.ref cp), some (.int way), some (.ref p11), some (.ref bd), some (.int (i : Nat)), some (.int mn), some (.ref p)] = [some (V.ref a), some (.ref pd), some (.int h.now), some (.ref v), some (.ref cp), some (.int way), some (.ref p11), some (.ref bd), some (.int (i : Nat)), some (.int mn), some (.ref p)] ∧ Vk D B12 H12 ((pd, .dK (dkP h.kv)) :: L) a bd h4 ht4 (n + 30 * i) (150 + (m + i)) ∧ Pm h4 h.now h.kv ∧ h4.floor ≤ h.now ∧ h.now ≤ h4.now ∧ h4.now ≤ 740 ∧ (way = 0 → h.now ∈ ksP ht4) := ⟨h3, ht3, rfl, hv, pm3, hfl, hnw, hn7, hw1⟩
      by_cases cw : way = 2
      · have ci : ¬ (i : Int) = 0 := fun e => c2 ⟨cw, by omega⟩
        wtm_at "go"
        exact hN _ _ hJ
      · wtm_at "go"
        exact hN _ _ hJ
  rintro σ H4 ⟨h4, ht4, rfl, hv, pm4, hfl4, hnw4, hn4, hw4⟩
  have hcs4 : SqL K H4 cp (cs.map V.int) := by
    obtain ⟨A, w, _⟩ := hv.mv
    exact w.sq (Z.Same.sq s012 hcs)
  obtain ⟨dx, hoa⟩ := hv.ho.obj
  have s112 : Same B1 B12 := same_trans s3 (same_trans s5 s512)
  wtm_at "go"
  refine r_fld hoa T.cl_House T.na_House_now rfl ?_
  by_cases c7 : h4.now < 700
  rotate_left
  · wtm_at "go"
    exact ⟨_, _, _, v, p11, t2, ts2, B12, h4, ht4, rfl, s112, { hv with le := Hh.le_mono hv.le (by omega), hl := by have := hv.hl; omega, kl := by have := hv.kl; omega }, itv, hud2, hbo, i11, tp12, hl12, pm4, hfl4, hnw4, hn4, hw4, fun _ e => by omega⟩
  wtm_at "go"
  refine r_lenL hcs4 ?_
  rw [List.length_map]
  wtm_at "go"
  refine r_ixL hcs4 ec ?_
  wtm_at "go"
  refine ⟨_, _, _, _, rfl, a, bd, h4, ht4, c, decide (0 < way), n + 30 * i, m + i, B12, _, rfl, rfl, rfl, rfl, hv, by omega, by omega, fun B5 H5 h5 ht5 s5 hv5 e1 e2 e3 e4 => ?_⟩
  wtm_at "go"
  obtain ⟨pm5, hf5⟩ := e4 h.now h.kv hnw4 (by
    by_cases cw : way = 0
    · exact .inr (hw4 cw)
    · exact .inl (decide_eq_true (by omega))) hfl4 pm4
  exact ⟨_, _, _, v, p11, t2, ts2, B5, h5, ht5, rfl, same_trans s112 s5, { hv5 with le := Hh.le_mono hv5.le (by omega), hl := by have := hv5.hl; omega, kl := by have := hv5.kl; omega }, itv.mono s5, hud2, hbo, s5 _ _ i11, tp12.mono s5, hl12, pm5, hf5, by omega, by omega, fun e => e3 _ (hw4 e), fun _ e => by omega⟩

theorem sm_le {m : Int} (h0 : 0 ≤ m) (h : m ≤ 4 * 10 ^ (39 : Int).toNat) : m.natAbs.log2 < 1920 := sml_of (o := some m) (fun n e => by cases e; exact ⟨h0, h⟩) m rfl
theorem cutI_seg (ns : List Int) (a b : Nat) : (cutI ns (some (a : Int)) (some (b : Int))).length ≤ b - a := by
  unfold cutI
  rw [show HT.sIx ns.length 0 (some (a : Int)) = min a ns.length from HT.sIx_nat _ _ _, show HT.sIx ns.length ns.length (some (b : Int)) = min b ns.length from HT.sIx_nat _ _ _, List.length_take, List.length_drop]
  omega
theorem Pk.ho {h : Hh} {ht : Kv} (i : Pk h ht) : Pk (h.hold (hoP ht h.now)) (hoP ht h.now) :=
  ⟨i.ri, i.no, i.nk, i.cu, i.nn, rfl, i.f0, i.fn, fun x hx => by
    rcases hoP_sub hx with rfl | hx
    · exact i.fn
    · exact i.hf x hx, fun x hx => by
    rcases hoP_sub hx with rfl | hx
    · exact Int.le_refl _
    · exact i.hn x hx, hoP_pos i.hp⟩
theorem hoP_mem (ht : Kv) (m : Int) : m ∈ ksP (hoP ht m) := by
  unfold hoP
  by_cases c : m ∈ ksP ht
  · rw [ksP_put_old c]; exact c
  · rw [ksP_put_new c]; exact List.mem_append_right _ (List.mem_cons_self ..)
theorem goP_num {ht : Kv} {m : Int} (hm : m ∈ ksP ht) (hp : ∀ m v, getP ht m = some v → 1 ≤ v) : ((getP (goP ht m) m).getD 0).toNat < ((getP ht m).getD 0).toNat := by
  obtain ⟨v, hv⟩ := getP_ex hm
  have h1 := hp m v hv
  unfold goP
  rw [hv]
  show ((getP (if v - 1 = 0 then delP ht m else putP ht m (v - 1)) m).getD 0).toNat < v.toNat
  split
  · rw [getP_delO, if_pos rfl]
    show (0 : Int).toNat < _
    omega
  · rw [getP_putO, if_pos rfl]
    show (v - 1).toNat < _
    omega
theorem ok_law {D : Ad} (T : Txt K mg D) : FnOk P w K mg base (L2.CX P w) 10 D.a_law D.d_law ["_law_script"] (sp_law K D) := by
  refine T.F_law.okX sc_law (fun vs H Q E h => sp1_len h) (fun cdv A outer s H vs Q E hr h => ⟨_, (pss_cons (ps_set (i := 1) sc_law.nd rfl (Or.inl rfl) (pe_make0 T.mk_House (ok_House_init T) (hr.mono (by decide)) rfl T.g_House T.b_House_init .nil pX))
    (pss_cons (ps_set (i := 2) sc_law.nd rfl (Or.inl rfl) pe_dnewK)
    (pss_cons (ps_set (i := 3) sc_law.nd rfl (Or.inl rfl) (pe_op op_add pe_int (pe_op op_mod (pe_call (ok__law_cell_at T) (hr.mono (by decide)) rfl T.g__law_cell_at T.F__law_cell_at.kp T.b__law_cell_at .nil pX (pa_cons (pv 0) (pa_cons pe_int pa_nil))) pe_int)))
    (pss_cons (ps_for (passes_of rfl) rfl (pi_list (pe_slice sl_list (pv 0) (po_some pe_int) (po_some (pv 3)))) (pg_name (i := 4) sc_law.nd rfl (Or.inl rfl))
      (pss_one (ps_expr (pe_call (ok__law_deed T) (hr.mono (by decide)) rfl T.g__law_deed T.F__law_deed.kp T.b__law_deed .nil pX (pa_cons (pv 1) (pa_cons (pv 2) (pa_cons (pv 4) (pa_cons pe_bl pa_nil))))))))
    (pss_cons (ps_set (i := 5) sc_law.nd rfl (Or.inl rfl) (pe_op op_mod (pe_op op_fdiv (pe_call (ok__law_cell_at T) (hr.mono (by decide)) rfl T.g__law_cell_at T.F__law_cell_at.kp T.b__law_cell_at .nil pX (pa_cons (pv 0) (pa_cons pe_int pa_nil))) pe_int) pe_int))
    (pss_cons (ps_set (i := 6) sc_law.nd rfl (Or.inl rfl) (pe_fld (pv 1) rfl))
    (pss_cons (ps_if (pt_cmpR op_ne (pv 5) pe_int (nomark _))
      (pss_one (ps_set (i := 6) sc_law.nd rfl (Or.inl rfl) (pe_meth0 (pv 1) T.cl_House T.me_House_hold (ok_House_hold T) (hr.mono (by decide)) T.b_House_hold .nil pX)))
      pss_nil)
    (pss_cons (ps_set (i := 7) sc_law.nd rfl (Or.inl rfl) (pe_call (ok__law_token T) (hr.mono (by decide)) rfl T.g__law_token T.F__law_token.kp T.b__law_token .nil pX (pa_cons (pe_call (ok__law_cell_at T) (hr.mono (by decide)) rfl T.g__law_cell_at T.F__law_cell_at.kp T.b__law_cell_at .nil pX (pa_cons (pv 0) (pa_cons pe_int pa_nil))) (pa_cons (pv 2) pa_nil))))
    (pss_cons (ps_if (pt_not (pt_val (pe_call (ok__law_walked T) (hr.mono (by decide)) rfl T.g__law_walked T.F__law_walked.kp T.b__law_walked .nil pX (pa_cons (pv 1) (pa_cons (pv 2) (pa_cons (pv 6) (pa_cons (pv 7) (pa_cons (pe_op op_cat (pe_slice sl_list (pv 0) (po_some (pv 3)) (po_some (pe_op op_add (pv 3) pe_int))) (pe_lst (pa_cons (pe_call (ok__law_cell_at T) (hr.mono (by decide)) rfl T.g__law_cell_at T.F__law_cell_at.kp T.b__law_cell_at .nil pX (pa_cons (pv 0) (pa_cons pe_int pa_nil))) pa_nil))) (pa_cons (pv 5) pa_nil)))))))))
      (pss_one (ps_ret pe_bl))
      pss_nil)
    (pss_cons (ps_set (i := 8) sc_law.nd rfl (Or.inl rfl) (pe_op op_add (pe_op op_add (pe_fld (pv 1) rfl) pe_int) (pe_op op_mod (pe_call (ok__law_cell_at T) (hr.mono (by decide)) rfl T.g__law_cell_at T.F__law_cell_at.kp T.b__law_cell_at .nil pX (pa_cons (pv 0) (pa_cons pe_int pa_nil))) (pe_op op_pow pe_int pe_int))))
    (pss_cons (ps_if (pt_cmpR op_ne (pe_call (ok__law_refused T) (hr.mono (by decide)) rfl T.g__law_refused T.F__law_refused.kp T.b__law_refused .nil pX (pa_cons (pv 1) (pa_cons (pv 8) (pa_cons (pv 7) pa_nil)))) (pe_op op_addS pe_str (pe_callTy call_strI (by rfl) T.n_str bt_str (pa_cons (pv 8) pa_nil))) (nomark _))
      (pss_one (ps_ret pe_bl))
      pss_nil)
    (pss_cons (ps_expr (pe_meth (pv 1) T.cl_House T.me_House_put (ok_House_put T) (hr.mono (by decide)) T.b_House_put .nil pX (pa_cons pe_int (pa_cons pe_int pa_nil))))
    (pss_cons (ps_for (passes_of rfl) rfl (pi_list (pe_meth0 (pv 1) T.cl_House T.me_House_held (ok_House_held T) (hr.mono (by decide)) T.b_House_held .nil pX)) (pg_name (i := 9) sc_law.nd rfl (Or.inl rfl))
      (pss_one (ps_while (passes_of rfl) (pt_cmpR op_in_seq (pv 9) (pe_meth0 (pv 1) T.cl_House T.me_House_held (ok_House_held T) (hr.mono (by decide)) T.b_House_held .nil pX) (by rfl))
        (pss_one (ps_expr (pe_meth (pv 1) T.cl_House T.me_House_let_go (ok_House_let_go T) (hr.mono (by decide)) T.b_House_let_go .nil pX (pa_cons (pv 9) pa_nil)))))))
    (pss_cons (ps_expr (pe_meth0 (pv 1) T.cl_House T.me_House_sweep (ok_House_sweep T) (hr.mono (by decide)) T.b_House_sweep .nil pX))
    (pss_one (ps_ret (pe_cmpR op_eq (pe_call (ok__law_refused T) (hr.mono (by decide)) rfl T.g__law_refused T.F__law_refused.kp T.b__law_refused .nil pX (pa_cons (pv 1) (pa_cons (pv 6) (pa_cons (pv 7) pa_nil)))) (pe_op op_addS pe_str (pe_callTy call_strI (by rfl) T.n_str bt_str (pa_cons (pv 6) pa_nil))) (nomark _)))))))))))))))))), ?_⟩)
  obtain ⟨x0, rfl, h⟩ := h
  rw [show L2.start n_law [x0] = [some x0, none, none, none, none, none, none, none, none, none] from rfl]
  try dsimp only [cxOf]
  obtain ⟨a, ns, rfl, hS, hlen, k⟩ := h
  obtain ⟨B0, hS, w⟩ := W.law hS
  wtm_at "go"
  refine mk_house w fun ah sl s lv qq mo bk pg hd B1 H1 s1 st0 ho => ?_
  have hS := Z.Same.sq s1 hS
  wtm_at "go"
  intro d hdd
  obtain ⟨R, w, back⟩ := Ho.out (X := []) ho
  have w := w.newL hdd (.dK [])
  generalize upd H1 d (.dK []) = H2 at *
  have ho : Ho D B1 H2 [(d, .dK (dkP []))] ah (Hh.new sl s lv qq mo bk pg hd) := back _ _ [(d, .dK [])] (same_refl _) w
  have pk : Pk (Hh.new sl s lv qq mo bk pg hd) [] := ⟨fun _ => List.Pairwise.nil, nofun, nofun, fun _ => rfl, nofun, rfl, Int.le_refl _, Int.le_refl _, nofun, nofun, nofun⟩
  have hv : Vk D B1 H2 [] ah d (Hh.new sl s lv qq mo bk pg hd) [] 0 (150 + 0) := ⟨ho, pk, ⟨Nat.le_refl _, Nat.le_refl _, fun _ => Nat.le_refl _, Nat.le_refl _⟩, Nat.le_refl _, Nat.zero_le _⟩
  have hn0 : (Hh.new sl s lv qq mo bk pg hd).now = 0 := rfl
  generalize Hh.new sl s lv qq mo bk pg hd = h0 at *
  clear w back ho hdd pk
  obtain ⟨A, w, back⟩ := hv.mv
  wtm_at "go"
  obtain ⟨cut, hcut⟩ := Int.eq_ofNat_of_zero_le (show (0 : Int) ≤ 4 + ns.getD 0 0 % 24 by omega)
  rw [hcut]
  have hcut2 : 4 ≤ cut ∧ cut ≤ 27 := by omega
  clear hcut
  wtm_at "go"
  refine d_slL w (w.sq hS) fun p3 B3 H3 hp3 s3 i3 w => ?_
  rw [cutV_int] at i3
  have hv := back _ _ s3 w
  have hcl : (cutI ns (some 4) (some (cut : Int))).length ≤ 23 := Nat.le_trans (cutI_seg ns 4 cut) (by omega)
  generalize cutI ns (some 4) (some (cut : Int)) = cs at *
  refine r_il (SqL.of (w.rd i3)) ?_
  clear w back
  refine FOR.list (K := K) (xs := cs.map V.int) (fun i σ H' => ∃ (v4 : Option V) (B' : Hp) (h : Hh) (ht : Kv), σ = [some (.ref a), some (.ref ah), some (.ref d), some (.int cut), v4, none, none, none, none, none] ∧ Same B3 B' ∧ Vk D B' H' [] ah d h ht (30 * i) (150 + i) ∧ h.now ≤ 30 * i) ⟨_, B3, h0, [], rfl, same_refl _, hv, by omega⟩
    (fun i σ H' _ ⟨_, _, _, _, _, s, hv, _⟩ => by obtain ⟨A, w, _⟩ := hv.mv; exact SqL.of (w.rd (s _ _ i3))) ?_ ?_
  · rintro i x σ H' hi ⟨v4, B4, h, ht, rfl, s4, hv, hnw⟩
    obtain ⟨c, rfl, hc, hil⟩ := getV hi
    wtm_at "go"
    refine ⟨_, _, _, _, rfl, ah, d, h, ht, c, false, 30 * i, i, B4, _, rfl, rfl, rfl, rfl, hv, by omega, by omega, fun B5 H5 h5 ht5 s5 hv5 e1 e2 e3 e4 => ?_⟩
    wtm_at "go"
    exact ⟨_, B5, h5, ht5, rfl, same_trans s4 s5, { hv5 with le := Hh.le_mono hv5.le (by omega), hl := by have := hv5.hl; omega }, by omega⟩
  rintro σ H4 ⟨v4, B4, h, ht, rfl, s4, hv, hnw⟩
  rw [List.length_map] at hv hnw
  have hS := Z.Same.sq (same_trans s3 s4) hS
  obtain ⟨dx, hoa⟩ := hv.ho.obj
  have hnn : 0 ≤ h.now := Int.le_trans hv.pk.f0 hv.pk.fn
  obtain ⟨A, w, back⟩ := hv.mv
  wtm_at "go"
  have hw0 : 0 ≤ ns.getD 0 0 / 24 % 3 := by omega
  generalize ns.getD 0 0 / 24 % 3 = way at *
  refine r_fld hoa T.cl_House T.na_House_now rfl ?_
  wtm_at "g0"
  clear w back
  refine g_ifJ (fun σ H' => ∃ (h' : Hh) (ht' : Kv), σ = [some (.ref a), some (.ref ah), some (.ref d), some (.int cut), v4, some (.int way), some (.int h'.now), none, none, none] ∧ Vk D B4 H' [] ah d h' ht' (30 * cs.length + 1) (150 + cs.length) ∧ h'.now ≤ 690 ∧ 0 ≤ h'.now ∧ (way ≠ 1 → h'.now ∈ ksP ht')) ?_ ?_
  rotate_left
  · intro N hN
    by_cases cw : way = 1
    · wtm_at "go"
      exact hN _ _ ⟨h, ht, rfl, { hv with le := Hh.le_mono hv.le (by omega), hl := by have := hv.hl; omega }, by omega, hnn, fun e => absurd cw e⟩
    · have hhl := hv.hl
      wtm_at "go"
      refine r_meth hoa rfl ?_
      wtm_at "go"
      refine ⟨_, rfl, ah, h, ht, B4, _, rfl, hv.ho, hv.pk.hs, by omega, fun H5 ho => ?_⟩
      have hho := hoP_le ht h.now
      wtm_at "go"
      have hvl := hv.le
      exact hN _ _ ⟨h.hold (hoP ht h.now), hoP ht h.now, rfl, ⟨ho, hv.pk.ho, ⟨Nat.le_succ_of_le hvl.1, Nat.le_succ_of_le hvl.2.1, fun k' => Nat.le_succ_of_le (hvl.2.2.1 k'), by show (dkP (hoP ht h.now)).length ≤ _; rw [dkP_len]; omega⟩, by omega, hv.kl⟩, by show h.now ≤ 690; omega, hnn, fun _ => hoP_mem ht h.now⟩
  clear hv hoa hnn hnw
  rintro σ H5 ⟨h, ht, rfl, hv, hn6, hn0, hmem⟩
  have hkl := hv.kl
  obtain ⟨R, w, back⟩ := Ho.out (X := [(d, .dK (dkP h.kv))]) hv.ho
  have hS5 := w.sq hS
  wtm_at "go"
  refine ⟨_, _, rfl, ns.getD 1 0, d, h.kv, B4, _, rfl, rfl, w, List.mem_cons_self .., hv.pk.nn, by omega, fun tk t B6 H6 s6 hud hok itk w => ?_⟩
  have hS := Z.Same.sq s6 hS
  wtm_at "go"
  refine d_slL w (w.sq hS) fun p7 B7 H7 hp7 s7 i7 w => ?_
  rw [cutV_int] at i7
  have hcl2 : (cutI ns (some (cut : Int)) (some ((cut : Int) + 24))).length ≤ 24 := Nat.le_trans (cutI_seg ns cut (cut + 24)) (by omega)
  generalize cutI ns (some (cut : Int)) (some ((cut : Int) + 24)) = cs2 at *
  have hS7 := w.sq (Z.Same.sq s7 hS)
  wtm_at "go"
  refine d_lst w (szl (by simp)) fun p8 B8 H8 hp8 s8 i8 w => ?_
  have i7 := s8 _ _ i7
  refine d_cat w (w.rd i7) (w.rd i8) (szl (by rw [List.length_map]; simp only [List.length_cons, List.length_nil]; omega)) fun p9 B9 H9 _ s9 i9 w => ?_
  have i9 : B9 p9 = some (.lst ((cs2 ++ [ns.getD 2 0]).map V.int)) := by rw [i9, List.map_append]; rfl
  have s69 := same_trans s7 (same_trans s8 s9)
  have hv : Vk D B9 H9 [] ah d h ht (30 * cs.length + 1) (150 + cs.length) := { hv with ho := back B9 H9 [(d, .dK (dkP h.kv))] (same_trans s6 s69) w }
  have hce : cs2 ++ [ns.getD 2 0] ≠ [] := by simp
  have hcl3 : (cs2 ++ [ns.getD 2 0]).length ≤ 63 := by rw [List.length_append, List.length_singleton]; omega
  generalize cs2 ++ [ns.getD 2 0] = cs3 at *
  have hS := Z.Same.sq s69 hS
  wtm_at "go"
  refine ⟨_, _, _, _, _, _, rfl, ah, d, tk, p9, h, ht, t, cs3, way, 30 * cs.length + 1, cs.length, B9, [], rfl, rfl, rfl, rfl, rfl, rfl, hv, by omega, by omega, hw0, hmem, by omega, SqL.of i9, hce, hcl3, itk.mono s69, hud, hok, fun B10 H10 h10 ht10 L10 s10 ho pk hle hl hk e1 e2 => ?_⟩
  have hS10 : SqL K H10 a (ns.map V.int) := by
    obtain ⟨A, w, _⟩ := ho.mv
    exact w.sq (Z.Same.sq s10 hS)
  obtain ⟨dx, hoa⟩ := ho.obj
  wtm_at "go"
  refine r_fld hoa T.cl_House T.na_House_now rfl ?_
  wtm_at "go"
  have hm0 : 0 ≤ ns.getD 3 0 % 10 ^ (9 : Int).toNat := Int.emod_nonneg _ (by decide)
  have hm1 : ns.getD 3 0 % 10 ^ (9 : Int).toNat < 10 ^ (9 : Int).toNat := Int.emod_lt_of_pos _ (by decide)
  have hm2 : (10 : Int) ^ (9 : Int).toNat = 1000000000 := by decide
  have hm3 : (1000001000 : Int) ≤ 4 * 10 ^ (39 : Int).toNat := by decide
  generalize ns.getD 3 0 % 10 ^ (9 : Int).toNat = x3 at *
  rw [hm2] at hm1
  clear hm2
  have hm4 : h10.now + 1 + x3 ≤ 1000001000 := by clear hm3; omega
  have hm5 : h.now ≤ 1000001000 := by clear hm3; omega
  have hm6 : 0 ≤ h10.now + 1 + x3 := by clear hm3; omega
  have hsm1 := sm_le hm6 (Int.le_trans hm4 hm3)
  have hsm2 := sm_le hn0 (Int.le_trans hm5 hm3)
  clear hm3 hm4 hm5 hm6
  have hpf := pk.fn
  have hf0 := pk.f0
  refine ⟨_, _, _, rfl, ah, tk, h10, _, 8000, B10, _, rfl, rfl, rfl, ho, hle, by omega, hsm1, .inr ⟨by omega, by omega, fun B11 H11 s11 ho => ?_⟩⟩
  wtm_at "go"
  refine r_strI hsm1 ?_
  wtm_at "go"
  have hsl1 := str_len _ hsm1
  have hsl2 := str_len _ hsm2
  refine r_addS (szl (by have e : ("not yet " : Str).length = 8 := by decide
                         rw [e]; omega)) ?_
  refine r_neS ?_
  rw [decide_eq_true rfl]
  obtain ⟨dx, hoa⟩ := ho.obj
  wtm_at "go"
  refine r_meth hoa rfl ?_
  wtm_at "go"
  refine ⟨_, _, _, rfl, ah, h10, 5, 5, 8000, B11, _, rfl, rfl, rfl, by decide, ho, hle, by omega, by omega, fun B12 H12 h12 s12 ho e1 e2 e3 e4 e5 e6 e7 e8 e9 e10 hle => ?_⟩
  obtain ⟨pk, _⟩ := pk.deed (key := 5) (v := some 5) (by decide) e2 e3 e5 e8 e9 (fun k' => by rw [e1]; exact getP_putO _ _ _ k') (fun k' hk' => by
    rw [e1] at hk'
    by_cases ck : 5 ∈ ksP h10.kv
    · rw [ksP_put_old ck] at hk'; exact pk.nn k' hk'
    · rw [ksP_put_new ck] at hk'
      rcases List.mem_append.mp hk' with hk' | hk'
      · exact pk.nn k' hk'
      · rw [List.mem_singleton.mp hk']; decide)
  have hnow : h.now < h12.now := by omega
  clear e1 e2 e3 e4 e5 e6 e7 e8 e9 e10 hoa
  obtain ⟨dx, hoa⟩ := ho.obj
  wtm_at "go"
  refine r_meth hoa rfl ?_
  wtm_at "go"
  refine ⟨_, rfl, ah, h12, ht10, B12, _, rfl, ho, pk.hs, fun p13 H13 ho => ?_⟩
  refine r_il (SqL.of (ho.get (List.mem_cons_self ..))) ?_
  clear hoa
  have hln := hl
  have h12le := hle
  have hKS : ∀ k ∈ ksP ht10, k ∈ (srt (ksP ht10)).drop 0 := fun k hk => (srt_perm _).mem_iff.mpr hk
  generalize hKe : srt (ksP ht10) = KS at *
  refine FOR.list (K := K) (xs := KS.map V.int) (fun i σ H' => ∃ (v9 : Option V) (h' : Hh) (ht' : Kv), σ = [some (.ref a), some (.ref ah), some (.ref d), some (.int cut), v4, some (.int way), some (.int h.now), some (.ref tk), some (.int (h10.now + 1 + x3)), v9] ∧ Ho D B12 H' ((p13, .lst (KS.map V.int)) :: L10) ah h' ∧ Pk h' ht' ∧ h'.le (8000 + 1) ∧ ht'.length ≤ 8000 ∧ h'.now = h12.now ∧ ∀ k ∈ ksP ht', k ∈ KS.drop i) ⟨none, h12, ht10, rfl, ho, pk, hle, hl, rfl, hKS⟩
    (fun i σ H' _ ⟨_, _, _, _, ho, _⟩ => SqL.of (ho.get (List.mem_cons_self ..))) ?_ ?_
  · clear ho pk hKS
    rintro i x σ H' hi ⟨v9, h1, ht1, rfl, ho, pk, hle1, hl1, hn1, hsub⟩
    obtain ⟨c, rfl, hc, hil⟩ := getV hi
    wtm_at "go"
    refine g_while ((getP ht1 c).getD 0).toNat (fun m σ H' => ∃ (h' : Hh) (ht' : Kv), σ = [some (.ref a), some (.ref ah), some (.ref d), some (.int cut), v4, some (.int way), some (.int h.now), some (.ref tk), some (.int (h10.now + 1 + x3)), some (.int c)] ∧ Ho D B12 H' ((p13, .lst (KS.map V.int)) :: L10) ah h' ∧ Pk h' ht' ∧ h'.le (8000 + 1) ∧ ht'.length ≤ 8000 ∧ h'.now = h12.now ∧ (∀ k ∈ ksP ht', k ∈ KS.drop i) ∧ ((getP ht' c).getD 0).toNat ≤ m) ⟨h1, ht1, rfl, ho, pk, hle1, hl1, hn1, hsub, Nat.le_refl _⟩ ?_
    clear ho pk hle1 hl1 hn1 hsub
    rintro m σ H' ⟨h1, ht1, rfl, ho, pk, hle1, hl1, hn1, hsub, hms⟩
    obtain ⟨dx, hoa⟩ := ho.obj
    wtm_at "go"
    refine r_meth hoa rfl ?_
    wtm_at "go"
    refine ⟨_, rfl, ah, h1, ht1, B12, _, rfl, ho, pk.hs, fun p14 H14 ho => ?_⟩
    refine r_inL (SqL.of (ho.get (List.mem_cons_self ..))) ?_
    obtain ⟨R, w, back⟩ := Ho.out (X := [(p14, .lst ((srt (ksP ht1)).map V.int))]) ho
    have ho := back B12 H14 [] (same_refl _) w.drop1
    clear w back hoa
    obtain ⟨dx, hoa⟩ := ho.obj
    by_cases cm : c ∈ srt (ksP ht1)
    · have cm2 : c ∈ ksP ht1 := (srt_perm _).mem_iff.mp cm
      rw [decide_eq_true cm]
      wtm_at "go"
      refine r_meth hoa rfl ?_
      wtm_at "go"
      refine ⟨_, _, rfl, ah, h1, ht1, c, B12, _, rfl, rfl, ho, pk.hs, by omega, .inl ⟨cm2, fun H15 ho => ?_⟩⟩
      have hgn := goP_num cm2 pk.hp
      have hgl := goP_le ht1 c cm2
      wtm_at "go"
      exact ⟨((getP (goP ht1 c) c).getD 0).toNat, by omega, h1.hold (goP ht1 c), goP ht1 c, rfl, ho, pk.go cm2, Hh.le_go hle1 cm2 (by omega), by omega, hn1, fun k hk => hsub k (goP_sub cm2 hk), Nat.le_refl _⟩
    · rw [decide_eq_false cm]
      wtm_at "go"
      refine ⟨_, h1, ht1, rfl, ho, pk, hle1, hl1, hn1, fun k hk => ?_⟩
      have h2 := hsub k hk
      obtain ⟨g1, g2⟩ := List.getElem?_eq_some_iff.mp hc
      rw [List.drop_eq_getElem_cons g1, g2] at h2
      rcases List.mem_cons.mp h2 with rfl | h2
      · exact absurd ((srt_perm _).mem_iff.mpr hk) cm
      · exact h2
  clear ho pk hKS
  rintro σ H14 ⟨v9, h1, ht1, rfl, ho, pk, hle1, hl1, hn1, hsub⟩
  rw [List.length_map, List.drop_length] at hsub
  have hk0 : ksP ht1 = [] := List.eq_nil_iff_forall_not_mem.mpr fun k hk => nomatch hsub k hk
  have hmn : mnP ht1 h1.now = h1.now := mnP_nil (by rw [hk0]; exact List.length_eq_zero_iff.mp (by rw [(srt_perm _).length_eq]; rfl))
  obtain ⟨dx, hoa⟩ := ho.obj
  wtm_at "go"
  refine r_meth hoa rfl ?_
  wtm_at "go"
  refine ⟨_, rfl, ah, h1, ht1, 8000 + 1, B12, _, rfl, ho, pk.hs, hle1, by omega, fun B15 H15 ls s15 ho e1 e2 hle2 => ?_⟩
  rw [hmn] at ho hle2
  wtm_at "go"
  refine ⟨_, _, _, rfl, ah, tk, _, _, 8000 + 1, B15, _, rfl, rfl, rfl, ho, hle2, by omega, hsm2, .inl ⟨by show h.now < h1.now; omega, fun B16 H16 s16 ho => ?_⟩⟩
  wtm_at "go"
  refine r_strI hsm2 ?_
  wtm_at "go"
  refine r_addS (szl (by have e : ("old " : Str).length = 4 := by decide
                         rw [e]; omega)) ?_
  refine r_eqS ?_
  rw [decide_eq_true rfl]
  exact k _


end
theorem Fun_of {K : PySem.W.Frag} {x q : Str} {st : Stmt} {f : Addr} {fd : FuncData} (F : FunD K x q (defArgs st) (defBody st) (defScope st) [] [] f fd) : Fun K x q st f fd := by
  obtain ⟨⟨oc, od, dV, kV, doc, pm, an, cdv, ct, osl, rfl, lk, hcd, hD, hK⟩, kp⟩ := F
  rcases hD with ⟨_, rfl⟩ | ⟨e, _⟩
  · exact ⟨⟨oc, od, kV, doc, pm, an, cdv, ct, osl, rfl, lk, hcd⟩, kp⟩
  · exact absurd rfl e
theorem all_mk {l : PySem.W.OpenLaw} {w : World} {K : PySem.W.Frag} {h : Heap} {mg : Str → Option Value} {fa f1 f2 f3 f4 f5 f6 f7 f8 f9 f10 f11 f12 f13 f14 f15 f16 f17 f18 f19 f20 f21 f22 f23 f24 f25 f26 f27 f28 f29 f30 f31 f32 f33 f34 f35 f36 f37 f38 f39 f40 f41 f42 f43 f44 f45 f46 f47 f48 f49 f50 f51 f52 f53 f54 f55 f56 f57 f58 C_WalkError C_NoKey C_Twice C_TooOld C_NoMoment C_NoToken C_Leaves C_Makes C_Bank C_Slots C_Token C_Up C_Down C_House : Addr} {d1 d2 d3 d4 d5 d6 d7 d8 d9 d10 d11 d12 d13 d14 d15 d16 d17 d18 d19 d20 d21 d22 d23 d24 d25 d26 d27 d28 d29 d30 d31 d32 d33 d34 d35 d36 d37 d38 d39 d40 d41 d42 d43 d44 d45 d46 d47 d48 d49 d50 d51 d52 d53 d54 d55 d56 d57 d58 : FuncData} {tk_MOST_KEYS tk_LEAST_OF_TWO tk_PLACES tk_LEAST_SIZE tk_MOST_SIZE : Tok} (X : K.In h) (G : h.Ns mainGlobals mg) (hfa : mg "law" = some (.ref fa))
    (a1 : PySem.W.findIn K (.ref C_Leaves) "__init__" = some (some (.ref f1)))
    (i1 : PySem.W.isFn K (.ref f1) = true)
    (k1 : PySem.W.keepIn K (.ref f1) = true)
    (a2 : PySem.W.findIn K (.ref C_Makes) "__init__" = some (some (.ref f2)))
    (i2 : PySem.W.isFn K (.ref f2) = true)
    (k2 : PySem.W.keepIn K (.ref f2) = true)
    (a3 : PySem.W.findIn K (.ref C_Bank) "__init__" = some (some (.ref f3)))
    (i3 : PySem.W.isFn K (.ref f3) = true)
    (k3 : PySem.W.keepIn K (.ref f3) = true)
    (a4 : PySem.W.findIn K (.ref C_Slots) "__init__" = some (some (.ref f4)))
    (i4 : PySem.W.isFn K (.ref f4) = true)
    (k4 : PySem.W.keepIn K (.ref f4) = true)
    (a5 : PySem.W.findIn K (.ref C_House) "__init__" = some (some (.ref f5)))
    (i5 : PySem.W.isFn K (.ref f5) = true)
    (k5 : PySem.W.keepIn K (.ref f5) = true)
    (a6 : PySem.W.findIn K (.ref C_House) "held" = some (some (.ref f6)))
    (i6 : PySem.W.isFn K (.ref f6) = true)
    (k6 : PySem.W.keepIn K (.ref f6) = true)
    (a7 : PySem.W.findIn K (.ref C_House) "hold" = some (some (.ref f7)))
    (i7 : PySem.W.isFn K (.ref f7) = true)
    (k7 : PySem.W.keepIn K (.ref f7) = true)
    (a8 : PySem.W.findIn K (.ref C_House) "let_go" = some (some (.ref f8)))
    (i8 : PySem.W.isFn K (.ref f8) = true)
    (k8 : PySem.W.keepIn K (.ref f8) = true)
    (a9 : PySem.W.findIn K (.ref C_Makes) "add" = some (some (.ref f9)))
    (i9 : PySem.W.isFn K (.ref f9) = true)
    (k9 : PySem.W.keepIn K (.ref f9) = true)
    (a10 : PySem.W.findIn K (.ref C_House) "done" = some (some (.ref f10)))
    (i10 : PySem.W.isFn K (.ref f10) = true)
    (k10 : PySem.W.keepIn K (.ref f10) = true)
    (a11 : PySem.W.findIn K (.ref C_Leaves) "leaf_at" = some (some (.ref f11)))
    (i11 : PySem.W.isFn K (.ref f11) = true)
    (k11 : PySem.W.keepIn K (.ref f11) = true)
    (a12 : PySem.W.findIn K (.ref C_Leaves) "has" = some (some (.ref f12)))
    (i12 : PySem.W.isFn K (.ref f12) = true)
    (k12 : PySem.W.keepIn K (.ref f12) = true)
    (a13 : PySem.W.findIn K (.ref C_Leaves) "add" = some (some (.ref f13)))
    (i13 : PySem.W.isFn K (.ref f13) = true)
    (k13 : PySem.W.keepIn K (.ref f13) = true)
    (a14 : PySem.W.nsIn K mainGlobals "mark_of" = some (some (.ref f14)))
    (k14 : PySem.W.keepIn K (.ref f14) = true)
    (a15 : PySem.W.nsIn K mainGlobals "slot_of" = some (some (.ref f15)))
    (k15 : PySem.W.keepIn K (.ref f15) = true)
    (a16 : PySem.W.findIn K (.ref C_Bank) "lot_of" = some (some (.ref f16)))
    (i16 : PySem.W.isFn K (.ref f16) = true)
    (k16 : PySem.W.keepIn K (.ref f16) = true)
    (a17 : PySem.W.findIn K (.ref C_Slots) "home" = some (some (.ref f17)))
    (i17 : PySem.W.isFn K (.ref f17) = true)
    (k17 : PySem.W.keepIn K (.ref f17) = true)
    (a18 : PySem.W.findIn K (.ref C_Slots) "has" = some (some (.ref f18)))
    (i18 : PySem.W.isFn K (.ref f18) = true)
    (k18 : PySem.W.keepIn K (.ref f18) = true)
    (a19 : PySem.W.findIn K (.ref C_Slots) "begin_row" = some (some (.ref f19)))
    (i19 : PySem.W.isFn K (.ref f19) = true)
    (k19 : PySem.W.keepIn K (.ref f19) = true)
    (a20 : PySem.W.findIn K (.ref C_Slots) "move_next" = some (some (.ref f20)))
    (i20 : PySem.W.isFn K (.ref f20) = true)
    (k20 : PySem.W.keepIn K (.ref f20) = true)
    (a21 : PySem.W.findIn K (.ref C_Slots) "put" = some (some (.ref f21)))
    (i21 : PySem.W.isFn K (.ref f21) = true)
    (k21 : PySem.W.keepIn K (.ref f21) = true)
    (a22 : PySem.W.findIn K (.ref C_House) "put" = some (some (.ref f22)))
    (i22 : PySem.W.isFn K (.ref f22) = true)
    (k22 : PySem.W.keepIn K (.ref f22) = true)
    (a23 : PySem.W.nsIn K mainGlobals "needed" = some (some (.ref f23)))
    (k23 : PySem.W.keepIn K (.ref f23) = true)
    (a24 : PySem.W.findIn K (.ref C_Makes) "thrown" = some (some (.ref f24)))
    (i24 : PySem.W.isFn K (.ref f24) = true)
    (k24 : PySem.W.keepIn K (.ref f24) = true)
    (a25 : PySem.W.findIn K (.ref C_House) "sweep" = some (some (.ref f25)))
    (i25 : PySem.W.isFn K (.ref f25) = true)
    (k25 : PySem.W.keepIn K (.ref f25) = true)
    (a26 : PySem.W.nsIn K mainGlobals "_law_cell_at" = some (some (.ref f26)))
    (k26 : PySem.W.keepIn K (.ref f26) = true)
    (a27 : PySem.W.findIn K (.ref C_Leaves) "join_at" = some (some (.ref f27)))
    (i27 : PySem.W.isFn K (.ref f27) = true)
    (k27 : PySem.W.keepIn K (.ref f27) = true)
    (a28 : PySem.W.findIn K (.ref C_Leaves) "discard" = some (some (.ref f28)))
    (i28 : PySem.W.isFn K (.ref f28) = true)
    (k28 : PySem.W.keepIn K (.ref f28) = true)
    (a29 : PySem.W.findIn K (.ref C_Slots) "sure" = some (some (.ref f29)))
    (i29 : PySem.W.isFn K (.ref f29) = true)
    (k29 : PySem.W.keepIn K (.ref f29) = true)
    (a30 : PySem.W.findIn K (.ref C_Slots) "drop" = some (some (.ref f30)))
    (i30 : PySem.W.isFn K (.ref f30) = true)
    (k30 : PySem.W.keepIn K (.ref f30) = true)
    (a31 : PySem.W.findIn K (.ref C_House) "drop" = some (some (.ref f31)))
    (i31 : PySem.W.isFn K (.ref f31) = true)
    (k31 : PySem.W.keepIn K (.ref f31) = true)
    (a32 : PySem.W.nsIn K mainGlobals "_law_drawn" = some (some (.ref f32)))
    (k32 : PySem.W.keepIn K (.ref f32) = true)
    (a33 : PySem.W.nsIn K mainGlobals "_law_key" = some (some (.ref f33)))
    (k33 : PySem.W.keepIn K (.ref f33) = true)
    (a34 : PySem.W.nsIn K mainGlobals "_law_deed" = some (some (.ref f34)))
    (k34 : PySem.W.keepIn K (.ref f34) = true)
    (a35 : PySem.W.findIn K (.ref C_Down) "holds" = some (some (.ref f35)))
    (i35 : PySem.W.isFn K (.ref f35) = true)
    (k35 : PySem.W.keepIn K (.ref f35) = true)
    (a36 : PySem.W.findIn K (.ref C_NoMoment) "__init__" = some (some (.ref f36)))
    (i36 : PySem.W.isFn K (.ref f36) = true)
    (k36 : PySem.W.keepIn K (.ref f36) = true)
    (a37 : PySem.W.findIn K (.ref C_TooOld) "__init__" = some (some (.ref f37)))
    (i37 : PySem.W.isFn K (.ref f37) = true)
    (k37 : PySem.W.keepIn K (.ref f37) = true)
    (a38 : PySem.W.findIn K (.ref C_House) "ask_moment" = some (some (.ref f38)))
    (i38 : PySem.W.isFn K (.ref f38) = true)
    (k38 : PySem.W.keepIn K (.ref f38) = true)
    (a39 : PySem.W.findIn K (.ref C_Makes) "value_at" = some (some (.ref f39)))
    (i39 : PySem.W.isFn K (.ref f39) = true)
    (k39 : PySem.W.keepIn K (.ref f39) = true)
    (a40 : PySem.W.findIn K (.ref C_Makes) "all_at" = some (some (.ref f40)))
    (i40 : PySem.W.isFn K (.ref f40) = true)
    (k40 : PySem.W.keepIn K (.ref f40) = true)
    (a41 : PySem.W.findIn K (.ref C_Up) "holds" = some (some (.ref f41)))
    (i41 : PySem.W.isFn K (.ref f41) = true)
    (k41 : PySem.W.keepIn K (.ref f41) = true)
    (a42 : PySem.W.findIn K (.ref C_Token) "__init__" = some (some (.ref f42)))
    (i42 : PySem.W.isFn K (.ref f42) = true)
    (k42 : PySem.W.keepIn K (.ref f42) = true)
    (a43 : PySem.W.nsIn K mainGlobals "is_whole" = some (some (.ref f43)))
    (k43 : PySem.W.keepIn K (.ref f43) = true)
    (a44 : PySem.W.nsIn K mainGlobals "bounded" = some (some (.ref f44)))
    (k44 : PySem.W.keepIn K (.ref f44) = true)
    (a45 : PySem.W.nsIn K mainGlobals "bound_or_none" = some (some (.ref f45)))
    (k45 : PySem.W.keepIn K (.ref f45) = true)
    (a46 : PySem.W.nsIn K mainGlobals "in_order" = some (some (.ref f46)))
    (k46 : PySem.W.keepIn K (.ref f46) = true)
    (a47 : PySem.W.findIn K (.ref C_Down) "__init__" = some (some (.ref f47)))
    (i47 : PySem.W.isFn K (.ref f47) = true)
    (k47 : PySem.W.keepIn K (.ref f47) = true)
    (a48 : PySem.W.findIn K (.ref C_Up) "__init__" = some (some (.ref f48)))
    (i48 : PySem.W.isFn K (.ref f48) = true)
    (k48 : PySem.W.keepIn K (.ref f48) = true)
    (a49 : PySem.W.nsIn K mainGlobals "behind" = some (some (.ref f49)))
    (k49 : PySem.W.keepIn K (.ref f49) = true)
    (a50 : PySem.W.findIn K (.ref C_House) "page_at" = some (some (.ref f50)))
    (i50 : PySem.W.isFn K (.ref f50) = true)
    (k50 : PySem.W.keepIn K (.ref f50) = true)
    (a51 : PySem.W.nsIn K mainGlobals "_law_refused" = some (some (.ref f51)))
    (k51 : PySem.W.keepIn K (.ref f51) = true)
    (a52 : PySem.W.nsIn K mainGlobals "_law_token" = some (some (.ref f52)))
    (k52 : PySem.W.keepIn K (.ref f52) = true)
    (a53 : PySem.W.nsIn K mainGlobals "_law_held" = some (some (.ref f53)))
    (k53 : PySem.W.keepIn K (.ref f53) = true)
    (a54 : PySem.W.nsIn K mainGlobals "_law_due" = some (some (.ref f54)))
    (k54 : PySem.W.keepIn K (.ref f54) = true)
    (a55 : PySem.W.nsIn K mainGlobals "_law_next" = some (some (.ref f55)))
    (k55 : PySem.W.keepIn K (.ref f55) = true)
    (a56 : PySem.W.nsIn K mainGlobals "_law_page" = some (some (.ref f56)))
    (k56 : PySem.W.keepIn K (.ref f56) = true)
    (a57 : PySem.W.nsIn K mainGlobals "_law_walked" = some (some (.ref f57)))
    (k57 : PySem.W.keepIn K (.ref f57) = true)
    (a58 : PySem.W.nsIn K mainGlobals "law" = some (some (.ref f58)))
    (k58 : PySem.W.keepIn K (.ref f58) = true)
    (aC_WalkError : PySem.W.nsIn K mainGlobals "WalkError" = some (some (.ref C_WalkError)))
    (aC_NoKey : PySem.W.nsIn K mainGlobals "NoKey" = some (some (.ref C_NoKey)))
    (aC_Twice : PySem.W.nsIn K mainGlobals "Twice" = some (some (.ref C_Twice)))
    (aC_TooOld : PySem.W.nsIn K mainGlobals "TooOld" = some (some (.ref C_TooOld)))
    (xo_TooOld : OexW K C_TooOld)
    (xa_TooOld : PySem.W.findIn K (.ref C_TooOld) "__setattr__" = some (some (.builtin "object.__setattr__")))
    (xe_TooOld : PySem.W.subIn K (.ref C_TooOld) (.type "BaseException") = some true)
    (xt_TooOld : PySem.W.typeIn K (.ref C_TooOld) = some (.type "type"))
    (xk_TooOld : PySem.W.keepIn K (.ref C_TooOld) = true)
    (xg_TooOld : PySem.W.findIn K (.ref C_TooOld) "__getattribute__" = some (some (.builtin "BaseException.__getattribute__")))
    (xn_TooOld : PySem.W.findIn K (.ref C_TooOld) "__getattr__" = some none)
    (xd_TooOld : PySem.W.hasDictIn K C_TooOld = true)
    (xc_TooOld : PySem.W.findIn K (.ref C_TooOld) "__class__" = some (some (.builtin "object.__class__")))
    (xs_TooOld : PySem.W.specialIn K (.builtin "object.__class__") "__get__" = some (some (.builtin "getset_descriptor.__get__")))
    (xj_TooOld : PySem.W.takesIn K (.builtin "object.__class__") = some true)
    (xm_TooOld : PySem.W.mroIn K C_TooOld (.type "object") = some true)
    (xl_TooOld : PySem.W.subIn K (.ref C_TooOld) (.ref C_TooOld) = some true)
    (sv_TooOld : PySem.W.subIn K (.ref C_TooOld) (.type "ValueError") = some true)
    (tI_TooOld : PySem.W.typeIn K (.ref f37) = some (.type "function"))
    (no_TooOld_moment : PySem.W.findIn K (.ref C_TooOld) "moment" = some none)
    (sb_TooOld_TooOld : PySem.W.subIn K (.ref C_TooOld) (.ref C_TooOld) = some true)
    (sb_TooOld_NoMoment : PySem.W.subIn K (.ref C_TooOld) (.ref C_NoMoment) = some false)
    (aC_NoMoment : PySem.W.nsIn K mainGlobals "NoMoment" = some (some (.ref C_NoMoment)))
    (xo_NoMoment : OexW K C_NoMoment)
    (xa_NoMoment : PySem.W.findIn K (.ref C_NoMoment) "__setattr__" = some (some (.builtin "object.__setattr__")))
    (xe_NoMoment : PySem.W.subIn K (.ref C_NoMoment) (.type "BaseException") = some true)
    (xt_NoMoment : PySem.W.typeIn K (.ref C_NoMoment) = some (.type "type"))
    (xk_NoMoment : PySem.W.keepIn K (.ref C_NoMoment) = true)
    (xg_NoMoment : PySem.W.findIn K (.ref C_NoMoment) "__getattribute__" = some (some (.builtin "BaseException.__getattribute__")))
    (xn_NoMoment : PySem.W.findIn K (.ref C_NoMoment) "__getattr__" = some none)
    (xd_NoMoment : PySem.W.hasDictIn K C_NoMoment = true)
    (xc_NoMoment : PySem.W.findIn K (.ref C_NoMoment) "__class__" = some (some (.builtin "object.__class__")))
    (xs_NoMoment : PySem.W.specialIn K (.builtin "object.__class__") "__get__" = some (some (.builtin "getset_descriptor.__get__")))
    (xj_NoMoment : PySem.W.takesIn K (.builtin "object.__class__") = some true)
    (xm_NoMoment : PySem.W.mroIn K C_NoMoment (.type "object") = some true)
    (xl_NoMoment : PySem.W.subIn K (.ref C_NoMoment) (.ref C_NoMoment) = some true)
    (sv_NoMoment : PySem.W.subIn K (.ref C_NoMoment) (.type "ValueError") = some true)
    (tI_NoMoment : PySem.W.typeIn K (.ref f36) = some (.type "function"))
    (no_NoMoment_moment : PySem.W.findIn K (.ref C_NoMoment) "moment" = some none)
    (sb_NoMoment_TooOld : PySem.W.subIn K (.ref C_NoMoment) (.ref C_TooOld) = some false)
    (sb_NoMoment_NoMoment : PySem.W.subIn K (.ref C_NoMoment) (.ref C_NoMoment) = some true)
    (aC_NoToken : PySem.W.nsIn K mainGlobals "NoToken" = some (some (.ref C_NoToken)))
    (aC_Leaves : PySem.W.nsIn K mainGlobals "Leaves" = some (some (.ref C_Leaves)))
    (pg_Leaves : PySem.W.plainGet K C_Leaves Str.empty = true)
    (hd_Leaves : PySem.W.hasDictIn K C_Leaves = true)
    (po_Leaves : PySem.W.plainOver K C_Leaves = true)
    (sa_Leaves : PySem.W.findIn K (.ref C_Leaves) "__setattr__" = some (some (.builtin "object.__setattr__")))
    (mk_Leaves : PySem.W.makesIn K C_Leaves = true)
    (kc_Leaves : PySem.W.keepIn K (.ref C_Leaves) = true)
    (na_Leaves_parted : PySem.W.findIn K (.ref C_Leaves) "parted" = some none)
    (aC_Makes : PySem.W.nsIn K mainGlobals "Makes" = some (some (.ref C_Makes)))
    (pg_Makes : PySem.W.plainGet K C_Makes Str.empty = true)
    (hd_Makes : PySem.W.hasDictIn K C_Makes = true)
    (po_Makes : PySem.W.plainOver K C_Makes = true)
    (sa_Makes : PySem.W.findIn K (.ref C_Makes) "__setattr__" = some (some (.builtin "object.__setattr__")))
    (mk_Makes : PySem.W.makesIn K C_Makes = true)
    (kc_Makes : PySem.W.keepIn K (.ref C_Makes) = true)
    (na_Makes_by_key : PySem.W.findIn K (.ref C_Makes) "by_key" = some none)
    (aC_Bank : PySem.W.nsIn K mainGlobals "Bank" = some (some (.ref C_Bank)))
    (pg_Bank : PySem.W.plainGet K C_Bank Str.empty = true)
    (hd_Bank : PySem.W.hasDictIn K C_Bank = true)
    (po_Bank : PySem.W.plainOver K C_Bank = true)
    (sa_Bank : PySem.W.findIn K (.ref C_Bank) "__setattr__" = some (some (.builtin "object.__setattr__")))
    (mk_Bank : PySem.W.makesIn K C_Bank = true)
    (kc_Bank : PySem.W.keepIn K (.ref C_Bank) = true)
    (na_Bank_lots : PySem.W.findIn K (.ref C_Bank) "lots" = some none)
    (na_Bank_size : PySem.W.findIn K (.ref C_Bank) "size" = some none)
    (aC_Slots : PySem.W.nsIn K mainGlobals "Slots" = some (some (.ref C_Slots)))
    (pg_Slots : PySem.W.plainGet K C_Slots Str.empty = true)
    (hd_Slots : PySem.W.hasDictIn K C_Slots = true)
    (po_Slots : PySem.W.plainOver K C_Slots = true)
    (sa_Slots : PySem.W.findIn K (.ref C_Slots) "__setattr__" = some (some (.builtin "object.__setattr__")))
    (mk_Slots : PySem.W.makesIn K C_Slots = true)
    (kc_Slots : PySem.W.keepIn K (.ref C_Slots) = true)
    (na_Slots_old : PySem.W.findIn K (.ref C_Slots) "old" = some none)
    (na_Slots_young : PySem.W.findIn K (.ref C_Slots) "young" = some none)
    (na_Slots_shifted : PySem.W.findIn K (.ref C_Slots) "shifted" = some none)
    (na_Slots_number : PySem.W.findIn K (.ref C_Slots) "number" = some none)
    (aC_Token : PySem.W.nsIn K mainGlobals "Token" = some (some (.ref C_Token)))
    (xt_Token : PySem.W.typeIn K (.ref C_Token) = some (.type "type"))
    (xc_Token : PySem.W.findIn K (.ref C_Token) "__class__" = some (some (.builtin "object.__class__")))
    (xs_Token : PySem.W.specialIn K (.builtin "object.__class__") "__get__" = some (some (.builtin "getset_descriptor.__get__")))
    (xj_Token : PySem.W.takesIn K (.builtin "object.__class__") = some true)
    (xm_Token : PySem.W.mroIn K C_Token (.type "object") = some true)
    (xl_Token : PySem.W.subIn K (.ref C_Token) (.ref C_Token) = some true)
    (sb_Token_Down : PySem.W.subIn K (.ref C_Token) (.ref C_Down) = some false)
    (sb_Token_Up : PySem.W.subIn K (.ref C_Token) (.ref C_Up) = some false)
    (pg_Token : PySem.W.plainGet K C_Token Str.empty = true)
    (hd_Token : PySem.W.hasDictIn K C_Token = true)
    (po_Token : PySem.W.plainOver K C_Token = true)
    (sa_Token : PySem.W.findIn K (.ref C_Token) "__setattr__" = some (some (.builtin "object.__setattr__")))
    (mk_Token : PySem.W.makesIn K C_Token = true)
    (kc_Token : PySem.W.keepIn K (.ref C_Token) = true)
    (na_Token_at : PySem.W.findIn K (.ref C_Token) "at" = some none)
    (na_Token_end : PySem.W.findIn K (.ref C_Token) "end" = some none)
    (aC_Up : PySem.W.nsIn K mainGlobals "Up" = some (some (.ref C_Up)))
    (xt_Up : PySem.W.typeIn K (.ref C_Up) = some (.type "type"))
    (xc_Up : PySem.W.findIn K (.ref C_Up) "__class__" = some (some (.builtin "object.__class__")))
    (xs_Up : PySem.W.specialIn K (.builtin "object.__class__") "__get__" = some (some (.builtin "getset_descriptor.__get__")))
    (xj_Up : PySem.W.takesIn K (.builtin "object.__class__") = some true)
    (xm_Up : PySem.W.mroIn K C_Up (.type "object") = some true)
    (xl_Up : PySem.W.subIn K (.ref C_Up) (.ref C_Up) = some true)
    (sb_Up_Down : PySem.W.subIn K (.ref C_Up) (.ref C_Down) = some false)
    (sb_Up_Up : PySem.W.subIn K (.ref C_Up) (.ref C_Up) = some true)
    (pg_Up : PySem.W.plainGet K C_Up Str.empty = true)
    (hd_Up : PySem.W.hasDictIn K C_Up = true)
    (po_Up : PySem.W.plainOver K C_Up = true)
    (sa_Up : PySem.W.findIn K (.ref C_Up) "__setattr__" = some (some (.builtin "object.__setattr__")))
    (mk_Up : PySem.W.makesIn K C_Up = true)
    (kc_Up : PySem.W.keepIn K (.ref C_Up) = true)
    (na_Up_at : PySem.W.findIn K (.ref C_Up) "at" = some none)
    (na_Up_end : PySem.W.findIn K (.ref C_Up) "end" = some none)
    (aC_Down : PySem.W.nsIn K mainGlobals "Down" = some (some (.ref C_Down)))
    (xt_Down : PySem.W.typeIn K (.ref C_Down) = some (.type "type"))
    (xc_Down : PySem.W.findIn K (.ref C_Down) "__class__" = some (some (.builtin "object.__class__")))
    (xs_Down : PySem.W.specialIn K (.builtin "object.__class__") "__get__" = some (some (.builtin "getset_descriptor.__get__")))
    (xj_Down : PySem.W.takesIn K (.builtin "object.__class__") = some true)
    (xm_Down : PySem.W.mroIn K C_Down (.type "object") = some true)
    (xl_Down : PySem.W.subIn K (.ref C_Down) (.ref C_Down) = some true)
    (sb_Down_Down : PySem.W.subIn K (.ref C_Down) (.ref C_Down) = some true)
    (sb_Down_Up : PySem.W.subIn K (.ref C_Down) (.ref C_Up) = some false)
    (pg_Down : PySem.W.plainGet K C_Down Str.empty = true)
    (hd_Down : PySem.W.hasDictIn K C_Down = true)
    (po_Down : PySem.W.plainOver K C_Down = true)
    (sa_Down : PySem.W.findIn K (.ref C_Down) "__setattr__" = some (some (.builtin "object.__setattr__")))
    (mk_Down : PySem.W.makesIn K C_Down = true)
    (kc_Down : PySem.W.keepIn K (.ref C_Down) = true)
    (na_Down_at : PySem.W.findIn K (.ref C_Down) "at" = some none)
    (na_Down_end : PySem.W.findIn K (.ref C_Down) "end" = some none)
    (aC_House : PySem.W.nsIn K mainGlobals "House" = some (some (.ref C_House)))
    (pg_House : PySem.W.plainGet K C_House Str.empty = true)
    (hd_House : PySem.W.hasDictIn K C_House = true)
    (po_House : PySem.W.plainOver K C_House = true)
    (sa_House : PySem.W.findIn K (.ref C_House) "__setattr__" = some (some (.builtin "object.__setattr__")))
    (mk_House : PySem.W.makesIn K C_House = true)
    (kc_House : PySem.W.keepIn K (.ref C_House) = true)
    (na_House_holders : PySem.W.findIn K (.ref C_House) "holders" = some none)
    (na_House_now : PySem.W.findIn K (.ref C_House) "now" = some none)
    (na_House_floor : PySem.W.findIn K (.ref C_House) "floor" = some none)
    (na_House_slots : PySem.W.findIn K (.ref C_House) "slots" = some none)
    (na_House_leaves : PySem.W.findIn K (.ref C_House) "leaves" = some none)
    (na_House_past : PySem.W.findIn K (.ref C_House) "past" = some none)
    (na_House_pages : PySem.W.findIn K (.ref C_House) "pages" = some none)
    (na_House_marked : PySem.W.findIn K (.ref C_House) "marked" = some none)
    (cg_WalkError : PySem.W.readsIn K C_WalkError (.type "type") = true)
    (ca_WalkError : PySem.W.specialIn K (.ref C_WalkError) "__getattribute__" = some (some (.builtin "type.__getattribute__")))
    (cv_WalkError : PySem.W.findCls K (.ref C_WalkError) (.type "type") "__init__" = some (.val (.builtin "ValueError.__init__")))
    (cg_Token : PySem.W.readsIn K C_Token (.type "type") = true)
    (ca_Token : PySem.W.specialIn K (.ref C_Token) "__getattribute__" = some (some (.builtin "type.__getattribute__")))
    (ci_Token_init : PySem.W.findCls K (.ref C_Token) (.type "type") "__init__" = some (.val (.ref f42)))
    (z_bool : PySem.W.nsIn K mainGlobals "bool" = some none)
    (z_dict : PySem.W.nsIn K mainGlobals "dict" = some none)
    (z_int : PySem.W.nsIn K mainGlobals "int" = some none)
    (z_isinstance : PySem.W.nsIn K mainGlobals "isinstance" = some none)
    (z_len : PySem.W.nsIn K mainGlobals "len" = some none)
    (z_list : PySem.W.nsIn K mainGlobals "list" = some none)
    (z_max : PySem.W.nsIn K mainGlobals "max" = some none)
    (z_min : PySem.W.nsIn K mainGlobals "min" = some none)
    (z_range : PySem.W.nsIn K mainGlobals "range" = some none)
    (z_sorted : PySem.W.nsIn K mainGlobals "sorted" = some none)
    (z_str : PySem.W.nsIn K mainGlobals "str" = some none)
    (z_tuple : PySem.W.nsIn K mainGlobals "tuple" = some none)
    (kk_MOST_KEYS : mg "MOST_KEYS" = some (.int 8 tk_MOST_KEYS))
    (kk_LEAST_OF_TWO : mg "LEAST_OF_TWO" = some (.int 5 tk_LEAST_OF_TWO))
    (kk_PLACES : mg "PLACES" = some (.int 65536 tk_PLACES))
    (kk_LEAST_SIZE : mg "LEAST_SIZE" = some (.int 4 tk_LEAST_SIZE))
    (kk_MOST_SIZE : mg "MOST_SIZE" = some (.int 256 tk_MOST_SIZE))
    (F1 : FunD K "__init__" "Leaves.__init__" (defArgs s_Leaves_init) (defBody s_Leaves_init) (defScope s_Leaves_init) [] [] f1 d1)
    (F2 : FunD K "__init__" "Makes.__init__" (defArgs s_Makes_init) (defBody s_Makes_init) (defScope s_Makes_init) [] [] f2 d2)
    (F3 : FunD K "__init__" "Bank.__init__" (defArgs s_Bank_init) (defBody s_Bank_init) (defScope s_Bank_init) [] [] f3 d3)
    (F4 : FunD K "__init__" "Slots.__init__" (defArgs s_Slots_init) (defBody s_Slots_init) (defScope s_Slots_init) [] [] f4 d4)
    (F5 : FunD K "__init__" "House.__init__" (defArgs s_House_init) (defBody s_House_init) (defScope s_House_init) [] [] f5 d5)
    (F6 : FunD K "held" "House.held" (defArgs s_House_held) (defBody s_House_held) (defScope s_House_held) [] [] f6 d6)
    (F7 : FunD K "hold" "House.hold" (defArgs s_House_hold) (defBody s_House_hold) (defScope s_House_hold) [] [] f7 d7)
    (F8 : FunD K "let_go" "House.let_go" (defArgs s_House_let_go) (defBody s_House_let_go) (defScope s_House_let_go) [] [] f8 d8)
    (F9 : FunD K "add" "Makes.add" (defArgs s_Makes_add) (defBody s_Makes_add) (defScope s_Makes_add) [] [] f9 d9)
    (F10 : FunD K "done" "House.done" (defArgs s_House_done) (defBody s_House_done) (defScope s_House_done) [] [] f10 d10)
    (F11 : FunD K "leaf_at" "Leaves.leaf_at" (defArgs s_Leaves_leaf_at) (defBody s_Leaves_leaf_at) (defScope s_Leaves_leaf_at) [] [] f11 d11)
    (F12 : FunD K "has" "Leaves.has" (defArgs s_Leaves_has) (defBody s_Leaves_has) (defScope s_Leaves_has) [] [] f12 d12)
    (F13 : FunD K "add" "Leaves.add" (defArgs s_Leaves_add) (defBody s_Leaves_add) (defScope s_Leaves_add) [] [] f13 d13)
    (F14 : FunD K "mark_of" "mark_of" (defArgs s_mark_of) (defBody s_mark_of) (defScope s_mark_of) [] [] f14 d14)
    (F15 : FunD K "slot_of" "slot_of" (defArgs s_slot_of) (defBody s_slot_of) (defScope s_slot_of) [] [] f15 d15)
    (F16 : FunD K "lot_of" "Bank.lot_of" (defArgs s_Bank_lot_of) (defBody s_Bank_lot_of) (defScope s_Bank_lot_of) [] [] f16 d16)
    (F17 : FunD K "home" "Slots.home" (defArgs s_Slots_home) (defBody s_Slots_home) (defScope s_Slots_home) [] [] f17 d17)
    (F18 : FunD K "has" "Slots.has" (defArgs s_Slots_has) (defBody s_Slots_has) (defScope s_Slots_has) [] [] f18 d18)
    (F19 : FunD K "begin_row" "Slots.begin_row" (defArgs s_Slots_begin_row) (defBody s_Slots_begin_row) (defScope s_Slots_begin_row) [] [] f19 d19)
    (F20 : FunD K "move_next" "Slots.move_next" (defArgs s_Slots_move_next) (defBody s_Slots_move_next) (defScope s_Slots_move_next) [] [] f20 d20)
    (F21 : FunD K "put" "Slots.put" (defArgs s_Slots_put) (defBody s_Slots_put) (defScope s_Slots_put) [] [] f21 d21)
    (F22 : FunD K "put" "House.put" (defArgs s_House_put) (defBody s_House_put) (defScope s_House_put) [] [] f22 d22)
    (F23 : FunD K "needed" "needed" (defArgs s_needed) (defBody s_needed) (defScope s_needed) [] [] f23 d23)
    (F24 : FunD K "thrown" "Makes.thrown" (defArgs s_Makes_thrown) (defBody s_Makes_thrown) (defScope s_Makes_thrown) [] [] f24 d24)
    (F25 : FunD K "sweep" "House.sweep" (defArgs s_House_sweep) (defBody s_House_sweep) (defScope s_House_sweep) [] [] f25 d25)
    (F26 : FunD K "_law_cell_at" "_law_cell_at" (defArgs s__law_cell_at) (defBody s__law_cell_at) (defScope s__law_cell_at) [] [] f26 d26)
    (F27 : FunD K "join_at" "Leaves.join_at" (defArgs s_Leaves_join_at) (defBody s_Leaves_join_at) (defScope s_Leaves_join_at) [] [] f27 d27)
    (F28 : FunD K "discard" "Leaves.discard" (defArgs s_Leaves_discard) (defBody s_Leaves_discard) (defScope s_Leaves_discard) [] [] f28 d28)
    (F29 : FunD K "sure" "Slots.sure" (defArgs s_Slots_sure) (defBody s_Slots_sure) (defScope s_Slots_sure) [] [] f29 d29)
    (F30 : FunD K "drop" "Slots.drop" (defArgs s_Slots_drop) (defBody s_Slots_drop) (defScope s_Slots_drop) [] [] f30 d30)
    (F31 : FunD K "drop" "House.drop" (defArgs s_House_drop) (defBody s_House_drop) (defScope s_House_drop) [] [] f31 d31)
    (F32 : FunD K "_law_drawn" "_law_drawn" (defArgs s__law_drawn) (defBody s__law_drawn) (defScope s__law_drawn) [] [] f32 d32)
    (F33 : FunD K "_law_key" "_law_key" (defArgs s__law_key) (defBody s__law_key) (defScope s__law_key) [] [] f33 d33)
    (F34 : FunD K "_law_deed" "_law_deed" (defArgs s__law_deed) (defBody s__law_deed) (defScope s__law_deed) [] [] f34 d34)
    (F35 : FunD K "holds" "Down.holds" (defArgs s_Down_holds) (defBody s_Down_holds) (defScope s_Down_holds) [] [] f35 d35)
    (F36 : FunD K "__init__" "NoMoment.__init__" (defArgs s_NoMoment_init) (defBody s_NoMoment_init) (defScope s_NoMoment_init) [] [] f36 d36)
    (F37 : FunD K "__init__" "TooOld.__init__" (defArgs s_TooOld_init) (defBody s_TooOld_init) (defScope s_TooOld_init) [] [] f37 d37)
    (F38 : FunD K "ask_moment" "House.ask_moment" (defArgs s_House_ask_moment) (defBody s_House_ask_moment) (defScope s_House_ask_moment) [] [] f38 d38)
    (F39 : FunD K "value_at" "Makes.value_at" (defArgs s_Makes_value_at) (defBody s_Makes_value_at) (defScope s_Makes_value_at) [] [] f39 d39)
    (F40 : FunD K "all_at" "Makes.all_at" (defArgs s_Makes_all_at) (defBody s_Makes_all_at) (defScope s_Makes_all_at) [] [] f40 d40)
    (F41 : FunD K "holds" "Up.holds" (defArgs s_Up_holds) (defBody s_Up_holds) (defScope s_Up_holds) [] [] f41 d41)
    (F42 : FunD K "__init__" "Token.__init__" (defArgs s_Token_init) (defBody s_Token_init) (defScope s_Token_init) [] [] f42 d42)
    (F43 : FunD K "is_whole" "is_whole" (defArgs s_is_whole) (defBody s_is_whole) (defScope s_is_whole) [] [] f43 d43)
    (F44 : FunD K "bounded" "bounded" (defArgs s_bounded) (defBody s_bounded) (defScope s_bounded) [] [] f44 d44)
    (F45 : FunD K "bound_or_none" "bound_or_none" (defArgs s_bound_or_none) (defBody s_bound_or_none) (defScope s_bound_or_none) [] [] f45 d45)
    (F46 : FunD K "in_order" "in_order" (defArgs s_in_order) (defBody s_in_order) (defScope s_in_order) [] [] f46 d46)
    (F47 : FunD K "__init__" "Down.__init__" (defArgs s_Down_init) (defBody s_Down_init) (defScope s_Down_init) [.non, .int 0] [] f47 d47)
    (F48 : FunD K "__init__" "Up.__init__" (defArgs s_Up_init) (defBody s_Up_init) (defScope s_Up_init) [.int 0, .non] [] f48 d48)
    (F49 : FunD K "behind" "behind" (defArgs s_behind) (defBody s_behind) (defScope s_behind) [] [] f49 d49)
    (F50 : FunD K "page_at" "House.page_at" (defArgs s_House_page_at) (defBody s_House_page_at) (defScope s_House_page_at) [.int 10] [] f50 d50)
    (F51 : FunD K "_law_refused" "_law_refused" (defArgs s__law_refused) (defBody s__law_refused) (defScope s__law_refused) [] [] f51 d51)
    (F52 : FunD K "_law_token" "_law_token" (defArgs s__law_token) (defBody s__law_token) (defScope s__law_token) [] [] f52 d52)
    (F53 : FunD K "_law_held" "_law_held" (defArgs s__law_held) (defBody s__law_held) (defScope s__law_held) [] [] f53 d53)
    (F54 : FunD K "_law_due" "_law_due" (defArgs s__law_due) (defBody s__law_due) (defScope s__law_due) [] [] f54 d54)
    (F55 : FunD K "_law_next" "_law_next" (defArgs s__law_next) (defBody s__law_next) (defScope s__law_next) [] [] f55 d55)
    (F56 : FunD K "_law_page" "_law_page" (defArgs s__law_page) (defBody s__law_page) (defScope s__law_page) [] [] f56 d56)
    (F57 : FunD K "_law_walked" "_law_walked" (defArgs s__law_walked) (defBody s__law_walked) (defScope s__law_walked) [] [] f57 d57)
    (F58 : FunD K "law" "law" (defArgs s_law) (defBody s_law) (defScope s_law) [] [] f58 d58) :
    ∃ fd : FuncData, (∀ (s : Shared) (v : Value), BindsTo s fd ⟨[v], []⟩ [("_law_script", v)]) ∧ ∃ D : Ad, ∀ base : Heap, K.In base → base.Ns mainGlobals mg → FnOk l.prog w K mg base (L2.CX l.prog w) 10 fa fd ["_law_script"] (sp_law K D) := by
  have e := hfa.symm.trans (PySem.W.mg_of X G a58)
  cases e
  have G1 : Fun K "__init__" "Leaves.__init__" s_Leaves_init _ _ := Fun_of F1
  have b1 := G1.binds (ps := ["self"]) fun _ _ _ _ _ _ us hl => match us, hl with | [_], _ => rfl
  have G2 : Fun K "__init__" "Makes.__init__" s_Makes_init _ _ := Fun_of F2
  have b2 := G2.binds (ps := ["self"]) fun _ _ _ _ _ _ us hl => match us, hl with | [_], _ => rfl
  have G3 : Fun K "__init__" "Bank.__init__" s_Bank_init _ _ := Fun_of F3
  have b3 := G3.binds (ps := ["self", "size"]) fun _ _ _ _ _ _ us hl => match us, hl with | [_, _], _ => rfl
  have G4 : Fun K "__init__" "Slots.__init__" s_Slots_init _ _ := Fun_of F4
  have b4 := G4.binds (ps := ["self"]) fun _ _ _ _ _ _ us hl => match us, hl with | [_], _ => rfl
  have G5 : Fun K "__init__" "House.__init__" s_House_init _ _ := Fun_of F5
  have b5 := G5.binds (ps := ["self"]) fun _ _ _ _ _ _ us hl => match us, hl with | [_], _ => rfl
  have G6 : Fun K "held" "House.held" s_House_held _ _ := Fun_of F6
  have b6 := G6.binds (ps := ["self"]) fun _ _ _ _ _ _ us hl => match us, hl with | [_], _ => rfl
  have G7 : Fun K "hold" "House.hold" s_House_hold _ _ := Fun_of F7
  have b7 := G7.binds (ps := ["self"]) fun _ _ _ _ _ _ us hl => match us, hl with | [_], _ => rfl
  have G8 : Fun K "let_go" "House.let_go" s_House_let_go _ _ := Fun_of F8
  have b8 := G8.binds (ps := ["self", "moment"]) fun _ _ _ _ _ _ us hl => match us, hl with | [_, _], _ => rfl
  have G9 : Fun K "add" "Makes.add" s_Makes_add _ _ := Fun_of F9
  have b9 := G9.binds (ps := ["self", "key", "moment", "value"]) fun _ _ _ _ _ _ us hl => match us, hl with | [_, _, _, _], _ => rfl
  have G10 : Fun K "done" "House.done" s_House_done _ _ := Fun_of F10
  have b10 := G10.binds (ps := ["self", "row", "key", "value"]) fun _ _ _ _ _ _ us hl => match us, hl with | [_, _, _, _], _ => rfl
  have G11 : Fun K "leaf_at" "Leaves.leaf_at" s_Leaves_leaf_at _ _ := Fun_of F11
  have b11 := G11.binds (ps := ["self", "key"]) fun _ _ _ _ _ _ us hl => match us, hl with | [_, _], _ => rfl
  have G12 : Fun K "has" "Leaves.has" s_Leaves_has _ _ := Fun_of F12
  have b12 := G12.binds (ps := ["self", "key"]) fun _ _ _ _ _ _ us hl => match us, hl with | [_, _], _ => rfl
  have G13 : Fun K "add" "Leaves.add" s_Leaves_add _ _ := Fun_of F13
  have b13 := G13.binds (ps := ["self", "key"]) fun _ _ _ _ _ _ us hl => match us, hl with | [_, _], _ => rfl
  have G14 : Fun K "mark_of" "mark_of" s_mark_of _ _ := Fun_of F14
  have b14 := G14.binds (ps := ["key"]) fun _ _ _ _ _ _ us hl => match us, hl with | [_], _ => rfl
  have G15 : Fun K "slot_of" "slot_of" s_slot_of _ _ := Fun_of F15
  have b15 := G15.binds (ps := ["key", "size"]) fun _ _ _ _ _ _ us hl => match us, hl with | [_, _], _ => rfl
  have G16 : Fun K "lot_of" "Bank.lot_of" s_Bank_lot_of _ _ := Fun_of F16
  have b16 := G16.binds (ps := ["self", "key"]) fun _ _ _ _ _ _ us hl => match us, hl with | [_, _], _ => rfl
  have G17 : Fun K "home" "Slots.home" s_Slots_home _ _ := Fun_of F17
  have b17 := G17.binds (ps := ["self", "key"]) fun _ _ _ _ _ _ us hl => match us, hl with | [_, _], _ => rfl
  have G18 : Fun K "has" "Slots.has" s_Slots_has _ _ := Fun_of F18
  have b18 := G18.binds (ps := ["self", "key"]) fun _ _ _ _ _ _ us hl => match us, hl with | [_, _], _ => rfl
  have G19 : Fun K "begin_row" "Slots.begin_row" s_Slots_begin_row _ _ := Fun_of F19
  have b19 := G19.binds (ps := ["self"]) fun _ _ _ _ _ _ us hl => match us, hl with | [_], _ => rfl
  have G20 : Fun K "move_next" "Slots.move_next" s_Slots_move_next _ _ := Fun_of F20
  have b20 := G20.binds (ps := ["self"]) fun _ _ _ _ _ _ us hl => match us, hl with | [_], _ => rfl
  have G21 : Fun K "put" "Slots.put" s_Slots_put _ _ := Fun_of F21
  have b21 := G21.binds (ps := ["self", "key", "value"]) fun _ _ _ _ _ _ us hl => match us, hl with | [_, _, _], _ => rfl
  have G22 : Fun K "put" "House.put" s_House_put _ _ := Fun_of F22
  have b22 := G22.binds (ps := ["self", "key", "value"]) fun _ _ _ _ _ _ us hl => match us, hl with | [_, _, _], _ => rfl
  have G23 : Fun K "needed" "needed" s_needed _ _ := Fun_of F23
  have b23 := G23.binds (ps := ["makes", "floor"]) fun _ _ _ _ _ _ us hl => match us, hl with | [_, _], _ => rfl
  have G24 : Fun K "thrown" "Makes.thrown" s_Makes_thrown _ _ := Fun_of F24
  have b24 := G24.binds (ps := ["self", "floor"]) fun _ _ _ _ _ _ us hl => match us, hl with | [_, _], _ => rfl
  have G25 : Fun K "sweep" "House.sweep" s_House_sweep _ _ := Fun_of F25
  have b25 := G25.binds (ps := ["self"]) fun _ _ _ _ _ _ us hl => match us, hl with | [_], _ => rfl
  have G26 : Fun K "_law_cell_at" "_law_cell_at" s__law_cell_at _ _ := Fun_of F26
  have b26 := G26.binds (ps := ["_law_script", "_law_k"]) fun _ _ _ _ _ _ us hl => match us, hl with | [_, _], _ => rfl
  have G27 : Fun K "join_at" "Leaves.join_at" s_Leaves_join_at _ _ := Fun_of F27
  have b27 := G27.binds (ps := ["self", "at"]) fun _ _ _ _ _ _ us hl => match us, hl with | [_, _], _ => rfl
  have G28 : Fun K "discard" "Leaves.discard" s_Leaves_discard _ _ := Fun_of F28
  have b28 := G28.binds (ps := ["self", "key"]) fun _ _ _ _ _ _ us hl => match us, hl with | [_, _], _ => rfl
  have G29 : Fun K "sure" "Slots.sure" s_Slots_sure _ _ := Fun_of F29
  have b29 := G29.binds (ps := ["self", "key"]) fun _ _ _ _ _ _ us hl => match us, hl with | [_, _], _ => rfl
  have G30 : Fun K "drop" "Slots.drop" s_Slots_drop _ _ := Fun_of F30
  have b30 := G30.binds (ps := ["self", "key"]) fun _ _ _ _ _ _ us hl => match us, hl with | [_, _], _ => rfl
  have G31 : Fun K "drop" "House.drop" s_House_drop _ _ := Fun_of F31
  have b31 := G31.binds (ps := ["self", "key"]) fun _ _ _ _ _ _ us hl => match us, hl with | [_, _], _ => rfl
  have G32 : Fun K "_law_drawn" "_law_drawn" s__law_drawn _ _ := Fun_of F32
  have b32 := G32.binds (ps := ["_law_cell", "_law_k"]) fun _ _ _ _ _ _ us hl => match us, hl with | [_, _], _ => rfl
  have G33 : Fun K "_law_key" "_law_key" s__law_key _ _ := Fun_of F33
  have b33 := G33.binds (ps := ["_law_cell"]) fun _ _ _ _ _ _ us hl => match us, hl with | [_], _ => rfl
  have G34 : Fun K "_law_deed" "_law_deed" s__law_deed _ _ := Fun_of F34
  have b34 := G34.binds (ps := ["_law_house", "_law_plain", "_law_cell", "_law_calm"]) fun _ _ _ _ _ _ us hl => match us, hl with | [_, _, _, _], _ => rfl
  have G35 : Fun K "holds" "Down.holds" s_Down_holds _ _ := Fun_of F35
  have b35 := G35.binds (ps := ["self", "key"]) fun _ _ _ _ _ _ us hl => match us, hl with | [_, _], _ => rfl
  have G36 : Fun K "__init__" "NoMoment.__init__" s_NoMoment_init _ _ := Fun_of F36
  have b36 := G36.binds (ps := ["self", "moment"]) fun _ _ _ _ _ _ us hl => match us, hl with | [_, _], _ => rfl
  have G37 : Fun K "__init__" "TooOld.__init__" s_TooOld_init _ _ := Fun_of F37
  have b37 := G37.binds (ps := ["self", "moment"]) fun _ _ _ _ _ _ us hl => match us, hl with | [_, _], _ => rfl
  have G38 : Fun K "ask_moment" "House.ask_moment" s_House_ask_moment _ _ := Fun_of F38
  have b38 := G38.binds (ps := ["self", "moment"]) fun _ _ _ _ _ _ us hl => match us, hl with | [_, _], _ => rfl
  have G39 : Fun K "value_at" "Makes.value_at" s_Makes_value_at _ _ := Fun_of F39
  have b39 := G39.binds (ps := ["self", "key", "moment"]) fun _ _ _ _ _ _ us hl => match us, hl with | [_, _, _], _ => rfl
  have G40 : Fun K "all_at" "Makes.all_at" s_Makes_all_at _ _ := Fun_of F40
  have b40 := G40.binds (ps := ["self", "moment"]) fun _ _ _ _ _ _ us hl => match us, hl with | [_, _], _ => rfl
  have G41 : Fun K "holds" "Up.holds" s_Up_holds _ _ := Fun_of F41
  have b41 := G41.binds (ps := ["self", "key"]) fun _ _ _ _ _ _ us hl => match us, hl with | [_, _], _ => rfl
  have G42 : Fun K "__init__" "Token.__init__" s_Token_init _ _ := Fun_of F42
  have b42 := G42.binds (ps := ["self", "at", "end"]) fun _ _ _ _ _ _ us hl => match us, hl with | [_, _, _], _ => rfl
  have G43 : Fun K "is_whole" "is_whole" s_is_whole _ _ := Fun_of F43
  have b43 := G43.binds (ps := ["thing"]) fun _ _ _ _ _ _ us hl => match us, hl with | [_], _ => rfl
  have G44 : Fun K "bounded" "bounded" s_bounded _ _ := Fun_of F44
  have b44 := G44.binds (ps := ["number", "most"]) fun _ _ _ _ _ _ us hl => match us, hl with | [_, _], _ => rfl
  have G45 : Fun K "bound_or_none" "bound_or_none" s_bound_or_none _ _ := Fun_of F45
  have b45 := G45.binds (ps := ["number"]) fun _ _ _ _ _ _ us hl => match us, hl with | [_], _ => rfl
  have G46 : Fun K "in_order" "in_order" s_in_order _ _ := Fun_of F46
  have b46 := G46.binds (ps := ["low", "high"]) fun _ _ _ _ _ _ us hl => match us, hl with | [_, _], _ => rfl
  have b47_0 := F47.binds1 (ps := ["self", "at", "end"]) 3 2 (by simp) (by decide) fun _ _ _ _ _ _ _ us its h1 h2 => match us, its, h1, h2 with | [_, _, _], [_, _], _, _ => ⟨_, rfl, rfl⟩
  have b47_1 := F47.binds1 (ps := ["self", "at", "end"]) 2 1 (by simp) (by decide) fun _ _ _ _ _ _ _ us its h1 h2 => match us, its, h1, h2 with | [_, _], [_, _], _, _ => ⟨_, rfl, rfl⟩
  have b47_2 := F47.binds1 (ps := ["self", "at", "end"]) 1 0 (by simp) (by decide) fun _ _ _ _ _ _ _ us its h1 h2 => match us, its, h1, h2 with | [_], [_, _], _, _ => ⟨_, rfl, rfl⟩
  have b47 := (match b47_0 with | ⟨ds, h, b⟩ => (by cases h; exact b) : Binds K _ ["self", "at", "end"] [])
  have b48_0 := F48.binds1 (ps := ["self", "at", "end"]) 3 2 (by simp) (by decide) fun _ _ _ _ _ _ _ us its h1 h2 => match us, its, h1, h2 with | [_, _, _], [_, _], _, _ => ⟨_, rfl, rfl⟩
  have b48_1 := F48.binds1 (ps := ["self", "at", "end"]) 2 1 (by simp) (by decide) fun _ _ _ _ _ _ _ us its h1 h2 => match us, its, h1, h2 with | [_, _], [_, _], _, _ => ⟨_, rfl, rfl⟩
  have b48_2 := F48.binds1 (ps := ["self", "at", "end"]) 1 0 (by simp) (by decide) fun _ _ _ _ _ _ _ us its h1 h2 => match us, its, h1, h2 with | [_], [_, _], _, _ => ⟨_, rfl, rfl⟩
  have b48 := (match b48_0 with | ⟨ds, h, b⟩ => (by cases h; exact b) : Binds K _ ["self", "at", "end"] [])
  have G49 : Fun K "behind" "behind" s_behind _ _ := Fun_of F49
  have b49 := G49.binds (ps := ["token", "key"]) fun _ _ _ _ _ _ us hl => match us, hl with | [_, _], _ => rfl
  have b50_0 := F50.binds1 (ps := ["self", "moment", "token", "many"]) 4 1 (by simp) (by decide) fun _ _ _ _ _ _ _ us its h1 h2 => match us, its, h1, h2 with | [_, _, _, _], [_], _, _ => ⟨_, rfl, rfl⟩
  have b50_1 := F50.binds1 (ps := ["self", "moment", "token", "many"]) 3 0 (by simp) (by decide) fun _ _ _ _ _ _ _ us its h1 h2 => match us, its, h1, h2 with | [_, _, _], [_], _, _ => ⟨_, rfl, rfl⟩
  have b50 := (match b50_0 with | ⟨ds, h, b⟩ => (by cases h; exact b) : Binds K _ ["self", "moment", "token", "many"] [])
  have G51 : Fun K "_law_refused" "_law_refused" s__law_refused _ _ := Fun_of F51
  have b51 := G51.binds (ps := ["_law_house", "_law_moment", "_law_token_here"]) fun _ _ _ _ _ _ us hl => match us, hl with | [_, _, _], _ => rfl
  have G52 : Fun K "_law_token" "_law_token" s__law_token _ _ := Fun_of F52
  have b52 := G52.binds (ps := ["_law_cell", "_law_plain"]) fun _ _ _ _ _ _ us hl => match us, hl with | [_, _], _ => rfl
  have G53 : Fun K "_law_held" "_law_held" s__law_held _ _ := Fun_of F53
  have b53 := G53.binds (ps := ["_law_token_here", "_law_key_here"]) fun _ _ _ _ _ _ us hl => match us, hl with | [_, _], _ => rfl
  have G54 : Fun K "_law_due" "_law_due" s__law_due _ _ := Fun_of F54
  have b54 := G54.binds (ps := ["_law_token_here", "_law_plain"]) fun _ _ _ _ _ _ us hl => match us, hl with | [_, _], _ => rfl
  have G55 : Fun K "_law_next" "_law_next" s__law_next _ _ := Fun_of F55
  have b55 := G55.binds (ps := ["_law_token_here", "_law_found", "_law_last"]) fun _ _ _ _ _ _ us hl => match us, hl with | [_, _, _], _ => rfl
  have G56 : Fun K "_law_page" "_law_page" s__law_page _ _ := Fun_of F56
  have b56 := G56.binds (ps := ["_law_house", "_law_moment", "_law_token_here", "_law_many"]) fun _ _ _ _ _ _ us hl => match us, hl with | [_, _, _, _], _ => rfl
  have G57 : Fun K "_law_walked" "_law_walked" s__law_walked _ _ := Fun_of F57
  have b57 := G57.binds (ps := ["_law_house", "_law_plain", "_law_moment", "_law_token_here", "_law_cells", "_law_way"]) fun _ _ _ _ _ _ us hl => match us, hl with | [_, _, _, _, _, _], _ => rfl
  have G58 : Fun K "law" "law" s_law _ _ := Fun_of F58
  have b58 := G58.binds (ps := ["_law_script"]) fun _ _ _ _ _ _ us hl => match us, hl with | [_], _ => rfl
  have T : Txt K mg { a_Leaves_init := f1, d_Leaves_init := d1, a_Makes_init := f2, d_Makes_init := d2, a_Bank_init := f3, d_Bank_init := d3, a_Slots_init := f4, d_Slots_init := d4, a_House_init := f5, d_House_init := d5, a_House_held := f6, d_House_held := d6, a_House_hold := f7, d_House_hold := d7, a_House_let_go := f8, d_House_let_go := d8, a_Makes_add := f9, d_Makes_add := d9, a_House_done := f10, d_House_done := d10, a_Leaves_leaf_at := f11, d_Leaves_leaf_at := d11, a_Leaves_has := f12, d_Leaves_has := d12, a_Leaves_add := f13, d_Leaves_add := d13, a_mark_of := f14, d_mark_of := d14, a_slot_of := f15, d_slot_of := d15, a_Bank_lot_of := f16, d_Bank_lot_of := d16, a_Slots_home := f17, d_Slots_home := d17, a_Slots_has := f18, d_Slots_has := d18, a_Slots_begin_row := f19, d_Slots_begin_row := d19, a_Slots_move_next := f20, d_Slots_move_next := d20, a_Slots_put := f21, d_Slots_put := d21, a_House_put := f22, d_House_put := d22, a_needed := f23, d_needed := d23, a_Makes_thrown := f24, d_Makes_thrown := d24, a_House_sweep := f25, d_House_sweep := d25, a__law_cell_at := f26, d__law_cell_at := d26, a_Leaves_join_at := f27, d_Leaves_join_at := d27, a_Leaves_discard := f28, d_Leaves_discard := d28, a_Slots_sure := f29, d_Slots_sure := d29, a_Slots_drop := f30, d_Slots_drop := d30, a_House_drop := f31, d_House_drop := d31, a__law_drawn := f32, d__law_drawn := d32, a__law_key := f33, d__law_key := d33, a__law_deed := f34, d__law_deed := d34, a_Down_holds := f35, d_Down_holds := d35, a_NoMoment_init := f36, d_NoMoment_init := d36, a_TooOld_init := f37, d_TooOld_init := d37, a_House_ask_moment := f38, d_House_ask_moment := d38, a_Makes_value_at := f39, d_Makes_value_at := d39, a_Makes_all_at := f40, d_Makes_all_at := d40, a_Up_holds := f41, d_Up_holds := d41, a_Token_init := f42, d_Token_init := d42, a_is_whole := f43, d_is_whole := d43, a_bounded := f44, d_bounded := d44, a_bound_or_none := f45, d_bound_or_none := d45, a_in_order := f46, d_in_order := d46, a_Down_init := f47, d_Down_init := d47, a_Up_init := f48, d_Up_init := d48, a_behind := f49, d_behind := d49, a_House_page_at := f50, d_House_page_at := d50, a__law_refused := f51, d__law_refused := d51, a__law_token := f52, d__law_token := d52, a__law_held := f53, d__law_held := d53, a__law_due := f54, d__law_due := d54, a__law_next := f55, d__law_next := d55, a__law_page := f56, d__law_page := d56, a__law_walked := f57, d__law_walked := d57, a_law := fa, d_law := d58, c_WalkError := C_WalkError, c_NoKey := C_NoKey, c_Twice := C_Twice, c_TooOld := C_TooOld, c_NoMoment := C_NoMoment, c_NoToken := C_NoToken, c_Leaves := C_Leaves, c_Makes := C_Makes, c_Bank := C_Bank, c_Slots := C_Slots, c_Token := C_Token, c_Up := C_Up, c_Down := C_Down, c_House := C_House, t_MOST_KEYS := tk_MOST_KEYS, t_LEAST_OF_TWO := tk_LEAST_OF_TWO, t_PLACES := tk_PLACES, t_LEAST_SIZE := tk_LEAST_SIZE, t_MOST_SIZE := tk_MOST_SIZE } := { F_Leaves_init := G1, b_Leaves_init := b1, F_Makes_init := G2, b_Makes_init := b2, F_Bank_init := G3, b_Bank_init := b3, F_Slots_init := G4, b_Slots_init := b4, F_House_init := G5, b_House_init := b5, F_House_held := G6, b_House_held := b6, F_House_hold := G7, b_House_hold := b7, F_House_let_go := G8, b_House_let_go := b8, F_Makes_add := G9, b_Makes_add := b9, F_House_done := G10, b_House_done := b10, F_Leaves_leaf_at := G11, b_Leaves_leaf_at := b11, F_Leaves_has := G12, b_Leaves_has := b12, F_Leaves_add := G13, b_Leaves_add := b13, F_mark_of := G14, b_mark_of := b14, g_mark_of := PySem.W.mg_of X G a14, F_slot_of := G15, b_slot_of := b15, g_slot_of := PySem.W.mg_of X G a15, F_Bank_lot_of := G16, b_Bank_lot_of := b16, F_Slots_home := G17, b_Slots_home := b17, F_Slots_has := G18, b_Slots_has := b18, F_Slots_begin_row := G19, b_Slots_begin_row := b19, F_Slots_move_next := G20, b_Slots_move_next := b20, F_Slots_put := G21, b_Slots_put := b21, F_House_put := G22, b_House_put := b22, F_needed := G23, b_needed := b23, g_needed := PySem.W.mg_of X G a23, F_Makes_thrown := G24, b_Makes_thrown := b24, F_House_sweep := G25, b_House_sweep := b25, F__law_cell_at := G26, b__law_cell_at := b26, g__law_cell_at := PySem.W.mg_of X G a26, F_Leaves_join_at := G27, b_Leaves_join_at := b27, F_Leaves_discard := G28, b_Leaves_discard := b28, F_Slots_sure := G29, b_Slots_sure := b29, F_Slots_drop := G30, b_Slots_drop := b30, F_House_drop := G31, b_House_drop := b31, F__law_drawn := G32, b__law_drawn := b32, g__law_drawn := PySem.W.mg_of X G a32, F__law_key := G33, b__law_key := b33, g__law_key := PySem.W.mg_of X G a33, F__law_deed := G34, b__law_deed := b34, g__law_deed := PySem.W.mg_of X G a34, F_Down_holds := G35, b_Down_holds := b35, F_NoMoment_init := G36, b_NoMoment_init := b36, F_TooOld_init := G37, b_TooOld_init := b37, F_House_ask_moment := G38, b_House_ask_moment := b38, F_Makes_value_at := G39, b_Makes_value_at := b39, F_Makes_all_at := G40, b_Makes_all_at := b40, F_Up_holds := G41, b_Up_holds := b41, F_Token_init := G42, b_Token_init := b42, F_is_whole := G43, b_is_whole := b43, g_is_whole := PySem.W.mg_of X G a43, F_bounded := G44, b_bounded := b44, g_bounded := PySem.W.mg_of X G a44, F_bound_or_none := G45, b_bound_or_none := b45, g_bound_or_none := PySem.W.mg_of X G a45, F_in_order := G46, b_in_order := b46, g_in_order := PySem.W.mg_of X G a46, F_Down_init := F47, b_Down_init := b47, b_Down_init_1 := b47_1, b_Down_init_2 := b47_2, F_Up_init := F48, b_Up_init := b48, b_Up_init_1 := b48_1, b_Up_init_2 := b48_2, F_behind := G49, b_behind := b49, g_behind := PySem.W.mg_of X G a49, F_House_page_at := F50, b_House_page_at := b50, b_House_page_at_1 := b50_1, F__law_refused := G51, b__law_refused := b51, g__law_refused := PySem.W.mg_of X G a51, F__law_token := G52, b__law_token := b52, g__law_token := PySem.W.mg_of X G a52, F__law_held := G53, b__law_held := b53, g__law_held := PySem.W.mg_of X G a53, F__law_due := G54, b__law_due := b54, g__law_due := PySem.W.mg_of X G a54, F__law_next := G55, b__law_next := b55, g__law_next := PySem.W.mg_of X G a55, F__law_page := G56, b__law_page := b56, g__law_page := PySem.W.mg_of X G a56, F__law_walked := G57, b__law_walked := b57, g__law_walked := PySem.W.mg_of X G a57, F_law := G58, b_law := b58, g_law := PySem.W.mg_of X G a58, g_WalkError := PySem.W.mg_of X G aC_WalkError, g_NoKey := PySem.W.mg_of X G aC_NoKey, g_Twice := PySem.W.mg_of X G aC_Twice, g_TooOld := PySem.W.mg_of X G aC_TooOld, xc_TooOld := ⟨⟨xo_TooOld, xa_TooOld, xe_TooOld, xt_TooOld, xk_TooOld⟩, ⟨xg_TooOld, xn_TooOld, xe_TooOld, xd_TooOld, xc_TooOld, xs_TooOld, xj_TooOld, xm_TooOld⟩, xl_TooOld⟩, sv_TooOld := sv_TooOld, iC_TooOld := a37, tI_TooOld := tI_TooOld, no_TooOld_moment := no_TooOld_moment, sb_TooOld_TooOld := sb_TooOld_TooOld, sb_TooOld_NoMoment := sb_TooOld_NoMoment, g_NoMoment := PySem.W.mg_of X G aC_NoMoment, xc_NoMoment := ⟨⟨xo_NoMoment, xa_NoMoment, xe_NoMoment, xt_NoMoment, xk_NoMoment⟩, ⟨xg_NoMoment, xn_NoMoment, xe_NoMoment, xd_NoMoment, xc_NoMoment, xs_NoMoment, xj_NoMoment, xm_NoMoment⟩, xl_NoMoment⟩, sv_NoMoment := sv_NoMoment, iC_NoMoment := a36, tI_NoMoment := tI_NoMoment, no_NoMoment_moment := no_NoMoment_moment, sb_NoMoment_TooOld := sb_NoMoment_TooOld, sb_NoMoment_NoMoment := sb_NoMoment_NoMoment, g_NoToken := PySem.W.mg_of X G aC_NoToken, g_Leaves := PySem.W.mg_of X G aC_Leaves, cl_Leaves := ⟨pg_Leaves, hd_Leaves, po_Leaves, sa_Leaves⟩, mk_Leaves := ⟨mk_Leaves, a1, i1, kc_Leaves⟩, me_Leaves_leaf_at := ⟨a11, i11, k11⟩, me_Leaves_has := ⟨a12, i12, k12⟩, me_Leaves_add := ⟨a13, i13, k13⟩, me_Leaves_discard := ⟨a28, i28, k28⟩, me_Leaves_join_at := ⟨a27, i27, k27⟩, na_Leaves_parted := na_Leaves_parted, g_Makes := PySem.W.mg_of X G aC_Makes, cl_Makes := ⟨pg_Makes, hd_Makes, po_Makes, sa_Makes⟩, mk_Makes := ⟨mk_Makes, a2, i2, kc_Makes⟩, me_Makes_add := ⟨a9, i9, k9⟩, me_Makes_value_at := ⟨a39, i39, k39⟩, me_Makes_all_at := ⟨a40, i40, k40⟩, me_Makes_thrown := ⟨a24, i24, k24⟩, na_Makes_by_key := na_Makes_by_key, g_Bank := PySem.W.mg_of X G aC_Bank, cl_Bank := ⟨pg_Bank, hd_Bank, po_Bank, sa_Bank⟩, mk_Bank := ⟨mk_Bank, a3, i3, kc_Bank⟩, me_Bank_lot_of := ⟨a16, i16, k16⟩, na_Bank_lots := na_Bank_lots, na_Bank_size := na_Bank_size, g_Slots := PySem.W.mg_of X G aC_Slots, cl_Slots := ⟨pg_Slots, hd_Slots, po_Slots, sa_Slots⟩, mk_Slots := ⟨mk_Slots, a4, i4, kc_Slots⟩, me_Slots_home := ⟨a17, i17, k17⟩, me_Slots_move_next := ⟨a20, i20, k20⟩, me_Slots_begin_row := ⟨a19, i19, k19⟩, me_Slots_put := ⟨a21, i21, k21⟩, me_Slots_sure := ⟨a29, i29, k29⟩, me_Slots_drop := ⟨a30, i30, k30⟩, me_Slots_has := ⟨a18, i18, k18⟩, na_Slots_old := na_Slots_old, na_Slots_young := na_Slots_young, na_Slots_shifted := na_Slots_shifted, na_Slots_number := na_Slots_number, g_Token := PySem.W.mg_of X G aC_Token, cl_Token := ⟨pg_Token, hd_Token, po_Token, sa_Token⟩, ic_Token := ⟨⟨pg_Token, hd_Token, po_Token, sa_Token⟩, hd_Token, xt_Token, xc_Token, xs_Token, xj_Token, xm_Token, xl_Token⟩, sb_Token_Down := sb_Token_Down, sb_Token_Up := sb_Token_Up, mk_Token := ⟨mk_Token, a42, i42, kc_Token⟩, na_Token_at := na_Token_at, na_Token_end := na_Token_end, g_Up := PySem.W.mg_of X G aC_Up, cl_Up := ⟨pg_Up, hd_Up, po_Up, sa_Up⟩, ic_Up := ⟨⟨pg_Up, hd_Up, po_Up, sa_Up⟩, hd_Up, xt_Up, xc_Up, xs_Up, xj_Up, xm_Up, xl_Up⟩, sb_Up_Down := sb_Up_Down, sb_Up_Up := sb_Up_Up, mk_Up := ⟨mk_Up, a48, i48, kc_Up⟩, me_Up_holds := ⟨a41, i41, k41⟩, na_Up_at := na_Up_at, na_Up_end := na_Up_end, g_Down := PySem.W.mg_of X G aC_Down, cl_Down := ⟨pg_Down, hd_Down, po_Down, sa_Down⟩, ic_Down := ⟨⟨pg_Down, hd_Down, po_Down, sa_Down⟩, hd_Down, xt_Down, xc_Down, xs_Down, xj_Down, xm_Down, xl_Down⟩, sb_Down_Down := sb_Down_Down, sb_Down_Up := sb_Down_Up, mk_Down := ⟨mk_Down, a47, i47, kc_Down⟩, me_Down_holds := ⟨a35, i35, k35⟩, na_Down_at := na_Down_at, na_Down_end := na_Down_end, g_House := PySem.W.mg_of X G aC_House, cl_House := ⟨pg_House, hd_House, po_House, sa_House⟩, mk_House := ⟨mk_House, a5, i5, kc_House⟩, me_House_done := ⟨a10, i10, k10⟩, me_House_put := ⟨a22, i22, k22⟩, me_House_drop := ⟨a31, i31, k31⟩, me_House_hold := ⟨a7, i7, k7⟩, me_House_let_go := ⟨a8, i8, k8⟩, me_House_held := ⟨a6, i6, k6⟩, me_House_sweep := ⟨a25, i25, k25⟩, me_House_ask_moment := ⟨a38, i38, k38⟩, me_House_page_at := ⟨a50, i50, k50⟩, na_House_holders := na_House_holders, na_House_now := na_House_now, na_House_floor := na_House_floor, na_House_slots := na_House_slots, na_House_leaves := na_House_leaves, na_House_past := na_House_past, na_House_pages := na_House_pages, na_House_marked := na_House_marked, cr_WalkError := ⟨cg_WalkError, ca_WalkError⟩, ve_WalkError := cv_WalkError, cr_Token := ⟨cg_Token, ca_Token⟩, ci_Token_init := ci_Token_init, k_MOST_KEYS := kk_MOST_KEYS, k_LEAST_OF_TWO := kk_LEAST_OF_TWO, k_PLACES := kk_PLACES, k_LEAST_SIZE := kk_LEAST_SIZE, k_MOST_SIZE := kk_MOST_SIZE, n_bool := PySem.W.mg_none_of X G z_bool, n_dict := PySem.W.mg_none_of X G z_dict, n_int := PySem.W.mg_none_of X G z_int, n_isinstance := PySem.W.mg_none_of X G z_isinstance, n_len := PySem.W.mg_none_of X G z_len, n_list := PySem.W.mg_none_of X G z_list, n_max := PySem.W.mg_none_of X G z_max, n_min := PySem.W.mg_none_of X G z_min, n_range := PySem.W.mg_none_of X G z_range, n_sorted := PySem.W.mg_none_of X G z_sorted, n_str := PySem.W.mg_none_of X G z_str, n_tuple := PySem.W.mg_none_of X G z_tuple }
  have bA := F58.bindsA (ps := ["_law_script"]) fun _ _ _ _ _ _ us hl => match us, hl with | [_], _ => rfl
  exact ⟨_, fun s v => bA s [v] rfl, _, fun base _ _ => ok_law T⟩
theorem walk {l : PySem.W.OpenLaw} {q : Program} {loose : List Str} {XP : (Str → Option Value) → Heap → Prop} {YP : World → Heap → Prop} {d : DefRec} (hn : l.most = some 63) (hdf : d.params.defaults = [])
    (F : ∀ (w : World) (mg : Str → Option Value) (fa : Addr) (h : Heap), YP w h → h.Ns mainGlobals mg → mg d.name = some (.ref fa) →
      ∃ (K : PySem.W.Frag) (fd : FuncData), K.In h ∧ (∀ (s : Shared) (u : Value), BindsTo s fd ⟨[u], []⟩ [("_law_script", u)]) ∧ ∃ D : Ad, ∀ base : Heap, K.In base → base.Ns mainGlobals mg → FnOk l.prog w K mg base (L2.CX l.prog w) 10 fa fd ["_law_script"] (sp_law K D)) :
    PySem.W.WalkO q loose XP YP l.row.toRowW d [] (fun f vs => PySem.call f vs) := by
  refine Att.attach_call hn hdf fun w s₀ s₁ mg mb fa o pm cd doc a vs ns G Y ho hd hcd hmg hobj hints hlen hg => ?_
  obtain ⟨K, fd, KX, hb, D, hF⟩ := F w mg fa _ Y G.T.g hmg
  exact law_call (CX := L2.CX l.prog w) (sp := spEnd K) KX G.T.g G.T.b G.T.builtins G.T.nolimit hg hobj hints (Nat.le_trans hlen (by decide)) ⟨rfl, by decide, by decide⟩ (fun base x y => (hF base x y).imp fun vs H Q E z => sp_law_end z) hb
    (fun H _ hS => ⟨.ref a, rfl, a, ns, rfl, hS, hlen, fun _ => rfl⟩) fun H e s' z => cx_false z
namespace H
theorem facts {l : PySem.W.OpenLaw} {w : World} {h : Heap} {mg : Str → Option Value} {f : Addr} (Y : hk.says w h) (G : h.Ns mainGlobals mg) (hfa : mg "law" = some (.ref f)) :
    ∃ (K : PySem.W.Frag) (fd : FuncData), K.In h ∧ (∀ (s : Shared) (v : Value), BindsTo s fd ⟨[v], []⟩ [("_law_script", v)]) ∧ ∃ D : Ad, ∀ base : Heap, K.In base → base.Ns mainGlobals mg → FnOk l.prog w K mg base (L2.CX l.prog w) 10 f fd ["_law_script"] (sp_law K D) := by
  obtain ⟨K, X, c, d⟩ := Y
  unfold chk at c
  obtain ⟨c, h10⟩ := He.ba c
  replace h10 := nth_ok h10
  obtain ⟨c, h9⟩ := He.ba c
  replace h9 := nth_ok h9
  obtain ⟨c, h8⟩ := He.ba c
  replace h8 := nth_ok h8
  obtain ⟨c, h7⟩ := He.ba c
  replace h7 := nth_ok h7
  obtain ⟨c, h6⟩ := He.ba c
  replace h6 := nth_ok h6
  obtain ⟨c, h5⟩ := He.ba c
  replace h5 := nth_ok h5
  obtain ⟨c, h4⟩ := He.ba c
  replace h4 := nth_ok h4
  obtain ⟨c, h3⟩ := He.ba c
  replace h3 := nth_ok h3
  obtain ⟨c, h2⟩ := He.ba c
  replace h2 := nth_ok h2
  obtain ⟨c, h1⟩ := He.ba c
  replace h1 := nth_ok h1
  have h0 := nth_ok c
  obtain ⟨d1, F1⟩ := d.def_ 0 (d := e1) rfl
  obtain ⟨d2, F2⟩ := d.def_ 1 (d := e2) rfl
  obtain ⟨d3, F3⟩ := d.def_ 2 (d := e3) rfl
  obtain ⟨d4, F4⟩ := d.def_ 3 (d := e4) rfl
  obtain ⟨d5, F5⟩ := d.def_ 4 (d := e5) rfl
  obtain ⟨d6, F6⟩ := d.def_ 5 (d := e6) rfl
  obtain ⟨d7, F7⟩ := d.def_ 6 (d := e7) rfl
  obtain ⟨d8, F8⟩ := d.def_ 7 (d := e8) rfl
  obtain ⟨d9, F9⟩ := d.def_ 8 (d := e9) rfl
  obtain ⟨d10, F10⟩ := d.def_ 9 (d := e10) rfl
  obtain ⟨d11, F11⟩ := d.def_ 10 (d := e11) rfl
  obtain ⟨d12, F12⟩ := d.def_ 11 (d := e12) rfl
  obtain ⟨d13, F13⟩ := d.def_ 12 (d := e13) rfl
  obtain ⟨d14, F14⟩ := d.def_ 13 (d := e14) rfl
  obtain ⟨d15, F15⟩ := d.def_ 14 (d := e15) rfl
  obtain ⟨d16, F16⟩ := d.def_ 15 (d := e16) rfl
  obtain ⟨d17, F17⟩ := d.def_ 16 (d := e17) rfl
  obtain ⟨d18, F18⟩ := d.def_ 17 (d := e18) rfl
  obtain ⟨d19, F19⟩ := d.def_ 18 (d := e19) rfl
  obtain ⟨d20, F20⟩ := d.def_ 19 (d := e20) rfl
  obtain ⟨d21, F21⟩ := d.def_ 20 (d := e21) rfl
  obtain ⟨d22, F22⟩ := d.def_ 21 (d := e22) rfl
  obtain ⟨d23, F23⟩ := d.def_ 22 (d := e23) rfl
  obtain ⟨d24, F24⟩ := d.def_ 23 (d := e24) rfl
  obtain ⟨d25, F25⟩ := d.def_ 24 (d := e25) rfl
  obtain ⟨d26, F26⟩ := d.def_ 25 (d := e26) rfl
  obtain ⟨d27, F27⟩ := d.def_ 26 (d := e27) rfl
  obtain ⟨d28, F28⟩ := d.def_ 27 (d := e28) rfl
  obtain ⟨d29, F29⟩ := d.def_ 28 (d := e29) rfl
  obtain ⟨d30, F30⟩ := d.def_ 29 (d := e30) rfl
  obtain ⟨d31, F31⟩ := d.def_ 30 (d := e31) rfl
  obtain ⟨d32, F32⟩ := d.def_ 31 (d := e32) rfl
  obtain ⟨d33, F33⟩ := d.def_ 32 (d := e33) rfl
  obtain ⟨d34, F34⟩ := d.def_ 33 (d := e34) rfl
  obtain ⟨d35, F35⟩ := d.def_ 34 (d := e35) rfl
  obtain ⟨d36, F36⟩ := d.def_ 35 (d := e36) rfl
  obtain ⟨d37, F37⟩ := d.def_ 36 (d := e37) rfl
  obtain ⟨d38, F38⟩ := d.def_ 37 (d := e38) rfl
  obtain ⟨d39, F39⟩ := d.def_ 38 (d := e39) rfl
  obtain ⟨d40, F40⟩ := d.def_ 39 (d := e40) rfl
  obtain ⟨d41, F41⟩ := d.def_ 40 (d := e41) rfl
  obtain ⟨d42, F42⟩ := d.def_ 41 (d := e42) rfl
  obtain ⟨d43, F43⟩ := d.def_ 42 (d := e43) rfl
  obtain ⟨d44, F44⟩ := d.def_ 43 (d := e44) rfl
  obtain ⟨d45, F45⟩ := d.def_ 44 (d := e45) rfl
  obtain ⟨d46, F46⟩ := d.def_ 45 (d := e46) rfl
  obtain ⟨d47, F47⟩ := d.def_ 46 (d := e47) rfl
  obtain ⟨d48, F48⟩ := d.def_ 47 (d := e48) rfl
  obtain ⟨d49, F49⟩ := d.def_ 48 (d := e49) rfl
  obtain ⟨d50, F50⟩ := d.def_ 49 (d := e50) rfl
  obtain ⟨d51, F51⟩ := d.def_ 50 (d := e51) rfl
  obtain ⟨d52, F52⟩ := d.def_ 51 (d := e52) rfl
  obtain ⟨d53, F53⟩ := d.def_ 52 (d := e53) rfl
  obtain ⟨d54, F54⟩ := d.def_ 53 (d := e54) rfl
  obtain ⟨d55, F55⟩ := d.def_ 54 (d := e55) rfl
  obtain ⟨d56, F56⟩ := d.def_ 55 (d := e56) rfl
  obtain ⟨d57, F57⟩ := d.def_ 56 (d := e57) rfl
  obtain ⟨d58, F58⟩ := d.def_ 57 (d := e58) rfl
  obtain ⟨tk_MOST_KEYS, kk_MOST_KEYS⟩ := He.int_ok X G (d.fact 0 (f := .int "MOST_KEYS" 8) rfl)
  obtain ⟨tk_LEAST_OF_TWO, kk_LEAST_OF_TWO⟩ := He.int_ok X G (d.fact 1 (f := .int "LEAST_OF_TWO" 5) rfl)
  obtain ⟨tk_PLACES, kk_PLACES⟩ := He.int_ok X G (d.fact 2 (f := .int "PLACES" 65536) rfl)
  obtain ⟨tk_LEAST_SIZE, kk_LEAST_SIZE⟩ := He.int_ok X G (d.fact 3 (f := .int "LEAST_SIZE" 4) rfl)
  obtain ⟨tk_MOST_SIZE, kk_MOST_SIZE⟩ := He.int_ok X G (d.fact 4 (f := .int "MOST_SIZE" 256) rfl)
  obtain ⟨fd, hb, D, hF⟩ := all_mk (l := l) (w := w) (f1 := f1 K) (f2 := f2 K) (f3 := f3 K) (f4 := f4 K) (f5 := f5 K) (f6 := f6 K) (f7 := f7 K) (f8 := f8 K) (f9 := f9 K) (f10 := f10 K) (f11 := f11 K) (f12 := f12 K) (f13 := f13 K) (f14 := f14 K) (f15 := f15 K) (f16 := f16 K) (f17 := f17 K) (f18 := f18 K) (f19 := f19 K) (f20 := f20 K) (f21 := f21 K) (f22 := f22 K) (f23 := f23 K) (f24 := f24 K) (f25 := f25 K) (f26 := f26 K) (f27 := f27 K) (f28 := f28 K) (f29 := f29 K) (f30 := f30 K) (f31 := f31 K) (f32 := f32 K) (f33 := f33 K) (f34 := f34 K) (f35 := f35 K) (f36 := f36 K) (f37 := f37 K) (f38 := f38 K) (f39 := f39 K) (f40 := f40 K) (f41 := f41 K) (f42 := f42 K) (f43 := f43 K) (f44 := f44 K) (f45 := f45 K) (f46 := f46 K) (f47 := f47 K) (f48 := f48 K) (f49 := f49 K) (f50 := f50 K) (f51 := f51 K) (f52 := f52 K) (f53 := f53 K) (f54 := f54 K) (f55 := f55 K) (f56 := f56 K) (f57 := f57 K) (f58 := f58 K) (C_WalkError := C_WalkError K) (C_NoKey := C_NoKey K) (C_Twice := C_Twice K) (C_TooOld := C_TooOld K) (C_NoMoment := C_NoMoment K) (C_NoToken := C_NoToken K) (C_Leaves := C_Leaves K) (C_Makes := C_Makes K) (C_Bank := C_Bank K) (C_Slots := C_Slots K) (C_Token := C_Token K) (C_Up := C_Up K) (C_Down := C_Down K) (C_House := C_House K) X G hfa
    (He.eqO_ok (h0 0))
    (h0 1)
    (h0 2)
    (He.eqO_ok (h0 3))
    (h0 4)
    (h0 5)
    (He.eqO_ok (h0 6))
    (h0 7)
    (h0 8)
    (He.eqO_ok (h0 9))
    (h0 10)
    (h0 11)
    (He.eqO_ok (h0 12))
    (h0 13)
    (h0 14)
    (He.eqO_ok (h0 15))
    (h0 16)
    (h0 17)
    (He.eqO_ok (h0 18))
    (h0 19)
    (h0 20)
    (He.eqO_ok (h0 21))
    (h0 22)
    (h0 23)
    (He.eqO_ok (h0 24))
    (h0 25)
    (h0 26)
    (He.eqO_ok (h0 27))
    (h0 28)
    (h0 29)
    (He.eqO_ok (h1 0))
    (h1 1)
    (h1 2)
    (He.eqO_ok (h1 3))
    (h1 4)
    (h1 5)
    (He.eqO_ok (h1 6))
    (h1 7)
    (h1 8)
    (He.eqO_ok (h1 9))
    (h1 10)
    (He.eqO_ok (h1 11))
    (h1 12)
    (He.eqO_ok (h1 13))
    (h1 14)
    (h1 15)
    (He.eqO_ok (h1 16))
    (h1 17)
    (h1 18)
    (He.eqO_ok (h1 19))
    (h1 20)
    (h1 21)
    (He.eqO_ok (h1 22))
    (h1 23)
    (h1 24)
    (He.eqO_ok (h1 25))
    (h1 26)
    (h1 27)
    (He.eqO_ok (h1 28))
    (h1 29)
    (h2 0)
    (He.eqO_ok (h2 1))
    (h2 2)
    (h2 3)
    (He.eqO_ok (h2 4))
    (h2 5)
    (He.eqO_ok (h2 6))
    (h2 7)
    (h2 8)
    (He.eqO_ok (h2 9))
    (h2 10)
    (h2 11)
    (He.eqO_ok (h2 12))
    (h2 13)
    (He.eqO_ok (h2 14))
    (h2 15)
    (h2 16)
    (He.eqO_ok (h2 17))
    (h2 18)
    (h2 19)
    (He.eqO_ok (h2 20))
    (h2 21)
    (h2 22)
    (He.eqO_ok (h2 23))
    (h2 24)
    (h2 25)
    (He.eqO_ok (h2 26))
    (h2 27)
    (h2 28)
    (He.eqO_ok (h2 29))
    (h3 0)
    (He.eqO_ok (h3 1))
    (h3 2)
    (He.eqO_ok (h3 3))
    (h3 4)
    (He.eqO_ok (h3 5))
    (h3 6)
    (h3 7)
    (He.eqO_ok (h3 8))
    (h3 9)
    (h3 10)
    (He.eqO_ok (h3 11))
    (h3 12)
    (h3 13)
    (He.eqO_ok (h3 14))
    (h3 15)
    (h3 16)
    (He.eqO_ok (h3 17))
    (h3 18)
    (h3 19)
    (He.eqO_ok (h3 20))
    (h3 21)
    (h3 22)
    (He.eqO_ok (h3 23))
    (h3 24)
    (h3 25)
    (He.eqO_ok (h3 26))
    (h3 27)
    (h3 28)
    (He.eqO_ok (h3 29))
    (h4 0)
    (He.eqO_ok (h4 1))
    (h4 2)
    (He.eqO_ok (h4 3))
    (h4 4)
    (He.eqO_ok (h4 5))
    (h4 6)
    (He.eqO_ok (h4 7))
    (h4 8)
    (h4 9)
    (He.eqO_ok (h4 10))
    (h4 11)
    (h4 12)
    (He.eqO_ok (h4 13))
    (h4 14)
    (He.eqO_ok (h4 15))
    (h4 16)
    (h4 17)
    (He.eqO_ok (h4 18))
    (h4 19)
    (He.eqO_ok (h4 20))
    (h4 21)
    (He.eqO_ok (h4 22))
    (h4 23)
    (He.eqO_ok (h4 24))
    (h4 25)
    (He.eqO_ok (h4 26))
    (h4 27)
    (He.eqO_ok (h4 28))
    (h4 29)
    (He.eqO_ok (h5 0))
    (h5 1)
    (He.eqO_ok (h5 2))
    (h5 3)
    (He.eqO_ok (h5 4))
    (He.eqO_ok (h5 5))
    (He.eqO_ok (h5 6))
    (He.eqO_ok (h5 7))
    (H.oexB_ok (h5 8))
    (He.eqO_ok (h5 9))
    (of_decide_eq_true (h5 10))
    (of_decide_eq_true (h5 11))
    (h5 12)
    (He.eqO_ok (h5 13))
    (He.eqO_ok (h5 14))
    (h5 15)
    (He.eqO_ok (h5 16))
    (He.eqO_ok (h5 17))
    (of_decide_eq_true (h5 18))
    (of_decide_eq_true (h5 19))
    (of_decide_eq_true (h5 20))
    (of_decide_eq_true (h5 21))
    (of_decide_eq_true (h5 22))
    (He.eqO_ok (h5 23))
    (of_decide_eq_true (h5 24))
    (of_decide_eq_true (h5 25))
    (He.eqO_ok (h5 26))
    (H.oexB_ok (h5 27))
    (He.eqO_ok (h5 28))
    (of_decide_eq_true (h5 29))
    (of_decide_eq_true (h6 0))
    (h6 1)
    (He.eqO_ok (h6 2))
    (He.eqO_ok (h6 3))
    (h6 4)
    (He.eqO_ok (h6 5))
    (He.eqO_ok (h6 6))
    (of_decide_eq_true (h6 7))
    (of_decide_eq_true (h6 8))
    (of_decide_eq_true (h6 9))
    (of_decide_eq_true (h6 10))
    (of_decide_eq_true (h6 11))
    (He.eqO_ok (h6 12))
    (of_decide_eq_true (h6 13))
    (of_decide_eq_true (h6 14))
    (He.eqO_ok (h6 15))
    (He.eqO_ok (h6 16))
    (h6 17)
    (h6 18)
    (h6 19)
    (He.eqO_ok (h6 20))
    (h6 21)
    (h6 22)
    (He.eqO_ok (h6 23))
    (He.eqO_ok (h6 24))
    (h6 25)
    (h6 26)
    (h6 27)
    (He.eqO_ok (h6 28))
    (h6 29)
    (h7 0)
    (He.eqO_ok (h7 1))
    (He.eqO_ok (h7 2))
    (h7 3)
    (h7 4)
    (h7 5)
    (He.eqO_ok (h7 6))
    (h7 7)
    (h7 8)
    (He.eqO_ok (h7 9))
    (He.eqO_ok (h7 10))
    (He.eqO_ok (h7 11))
    (h7 12)
    (h7 13)
    (h7 14)
    (He.eqO_ok (h7 15))
    (h7 16)
    (h7 17)
    (He.eqO_ok (h7 18))
    (He.eqO_ok (h7 19))
    (He.eqO_ok (h7 20))
    (He.eqO_ok (h7 21))
    (He.eqO_ok (h7 22))
    (of_decide_eq_true (h7 23))
    (He.eqO_ok (h7 24))
    (He.eqO_ok (h7 25))
    (of_decide_eq_true (h7 26))
    (of_decide_eq_true (h7 27))
    (of_decide_eq_true (h7 28))
    (of_decide_eq_true (h7 29))
    (of_decide_eq_true (h8 0))
    (h8 1)
    (h8 2)
    (h8 3)
    (He.eqO_ok (h8 4))
    (h8 5)
    (h8 6)
    (He.eqO_ok (h8 7))
    (He.eqO_ok (h8 8))
    (He.eqO_ok (h8 9))
    (of_decide_eq_true (h8 10))
    (He.eqO_ok (h8 11))
    (He.eqO_ok (h8 12))
    (of_decide_eq_true (h8 13))
    (of_decide_eq_true (h8 14))
    (of_decide_eq_true (h8 15))
    (of_decide_eq_true (h8 16))
    (of_decide_eq_true (h8 17))
    (h8 18)
    (h8 19)
    (h8 20)
    (He.eqO_ok (h8 21))
    (h8 22)
    (h8 23)
    (He.eqO_ok (h8 24))
    (He.eqO_ok (h8 25))
    (He.eqO_ok (h8 26))
    (of_decide_eq_true (h8 27))
    (He.eqO_ok (h8 28))
    (He.eqO_ok (h8 29))
    (of_decide_eq_true (h9 0))
    (of_decide_eq_true (h9 1))
    (of_decide_eq_true (h9 2))
    (of_decide_eq_true (h9 3))
    (of_decide_eq_true (h9 4))
    (h9 5)
    (h9 6)
    (h9 7)
    (He.eqO_ok (h9 8))
    (h9 9)
    (h9 10)
    (He.eqO_ok (h9 11))
    (He.eqO_ok (h9 12))
    (He.eqO_ok (h9 13))
    (h9 14)
    (h9 15)
    (h9 16)
    (He.eqO_ok (h9 17))
    (h9 18)
    (h9 19)
    (He.eqO_ok (h9 20))
    (He.eqO_ok (h9 21))
    (He.eqO_ok (h9 22))
    (He.eqO_ok (h9 23))
    (He.eqO_ok (h9 24))
    (He.eqO_ok (h9 25))
    (He.eqO_ok (h9 26))
    (He.eqO_ok (h9 27))
    (h9 28)
    (He.eqO_ok (h9 29))
    (cfB_ok (h10 0))
    (h10 1)
    (He.eqO_ok (h10 2))
    (cfB_ok (h10 3))
    (He.eqO_ok (h10 4))
    (He.eqO_ok (h10 5))
    (He.eqO_ok (h10 6))
    (He.eqO_ok (h10 7))
    (He.eqO_ok (h10 8))
    (He.eqO_ok (h10 9))
    (He.eqO_ok (h10 10))
    (He.eqO_ok (h10 11))
    (He.eqO_ok (h10 12))
    (He.eqO_ok (h10 13))
    (He.eqO_ok (h10 14))
    (He.eqO_ok (h10 15))
    kk_MOST_KEYS kk_LEAST_OF_TWO kk_PLACES kk_LEAST_SIZE kk_MOST_SIZE F1 F2 F3 F4 F5 F6 F7 F8 F9 F10 F11 F12 F13 F14 F15 F16 F17 F18 F19 F20 F21 F22 F23 F24 F25 F26 F27 F28 F29 F30 F31 F32 F33 F34 F35 F36 F37 F38 F39 F40 F41 F42 F43 F44 F45 F46 F47 F48 F49 F50 F51 F52 F53 F54 F55 F56 F57 F58
  exact ⟨K, fd, X, hb, D, hF⟩
end H
end Toy
open PySem PySem.W PySem.Calls PyProof.Rows
set_option maxRecDepth 100000 in
set_option maxHeartbeats 0 in
theorem PySem.Challenge.cw_staywalk_k47_whole_walk_through_a_moment_holds : PySem.Challenge.rw_staywalk_k47_whole_walk_through_a_moment.Holds := by
  refine Toy.H.ends ?_
  refine Toy.walk (l := PySem.Challenge.rw_staywalk_k47_whole_walk_through_a_moment) rfl (by kernel_rfl) ?F
  intro w mg fa h Y G hmg0
  have hmg : mg ("law" : PySem.Str) = some (.ref fa) := by
    have e : (HandSHeadRun.topDef Toy.H.R.prog 48).name = ("law" : PySem.Str) := by kernel_rfl
    rw [← e]
    exact hmg0
  exact Toy.H.facts Y G hmg
