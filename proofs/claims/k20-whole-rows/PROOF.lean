import PyProof.Rows.All
import Wide.All
import OpenK.AllK
import Wide.FinOn
import KE.KDictKeyed
import KE.SortData
import KE.SortKeyHeap
import HandS.ForExc
import HandS.Comp
import HandS.Dict
import HandS.Iter
import HandS.Walk
import HandS.Zip
import HandS.Lambda
import KE.KDictWalk
import KE.KDictCopyH
import KE.KDictList
import KE.GoesSet
import HandS.DictComp
import HandS.TupSets
import HandS.SortKw
import KE.KTupSum
import HandS.WordsDict
import HandS.TupAny
import HandS.TupLen
import HandS.Style
import HandS.Wide
import HandS.SetKeys
import HandS.IsInst
import HandS.Head0
import HandS.Head1
import HandS.Head2
import HandS.HeadEnd
import HandS.HeadHook1
import HandS.HeadHook2
import HandS.HeadHook3
import HandS.Words
import HandS.WordsExc
import HandS.Defaults
import HandS.ExcInit
import HandS.ExcField
import HandS.ExcOwn
import HandS.More
import HandS.WrittenGet
import PySem.Challenge.RW_quillmoot_k20_whole_rows_by_own_trees
import HandS.Small
import HandS.HeadHook4
import HandS.HeadWalk
import Wide.Once
import KE.KStateDown
set_option Elab.async false
set_option linter.all false
set_option maxRecDepth 100000
set_option maxHeartbeats 0
namespace K20
open PySem PySem.Spec PyProof.Rows L2
def topS (i : Nat) : Stmt := PySem.Challenge.pw_quillmoot_k20_whole_rows_by_own_trees.main.body.getD i (.Pass ⟨0, 0, 0, 0⟩)
abbrev s_is_integer : Stmt := topS 4
abbrev s_is_number : Stmt := topS 5
abbrev s_is_clock : Stmt := topS 6
abbrev s_is_within : Stmt := topS 8
abbrev s_counts_id : Stmt := topS 9
abbrev s_act_of : Stmt := topS 12
abbrev s_named_by : Stmt := topS 13
abbrev s_is_block : Stmt := topS 27
abbrev s_blocks_in : Stmt := topS 28
abbrev s_SignTrees___init__ : Stmt := inClass (topS 34) 0
abbrev s_SignTrees_hang_text : Stmt := inClass (topS 34) 1
abbrev s_SignTrees_hang : Stmt := inClass (topS 34) 2
abbrev s_SignTrees_place_between : Stmt := inClass (topS 34) 3
abbrev s_SignTrees_is_above : Stmt := inClass (topS 34) 4
abbrev s_SignTrees_row_under : Stmt := inClass (topS 34) 5
abbrev s_trees_of : Stmt := topS 35
abbrev s_row : Stmt := topS 36
abbrev s_passed : Stmt := topS 40
abbrev s_open_row : Stmt := topS 41
abbrev s_is_hand : Stmt := topS 55
abbrev s_is_string_of : Stmt := topS 56
abbrev s_is_word : Stmt := topS 57
abbrev s_is_text : Stmt := topS 58
abbrev s_is_deed_id : Stmt := topS 59
abbrev s_is_block_id : Stmt := topS 60
abbrev s_is_sign_id : Stmt := topS 61
abbrev s_is_part : Stmt := topS 63
abbrev s_is_act : Stmt := topS 64
abbrev s_is_deed : Stmt := topS 65
abbrev s_id_of : Stmt := topS 66
abbrev s_Deeds___init__ : Stmt := inClass (topS 68) 0
abbrev s_Deeds_greatest_time : Stmt := inClass (topS 68) 1
abbrev s_Deeds_has : Stmt := inClass (topS 68) 2
abbrev s_Deeds_within : Stmt := inClass (topS 68) 3
abbrev s_Deeds_in_turn : Stmt := inClass (topS 68) 4
abbrev s_Deeds_clock : Stmt := inClass (topS 68) 5
abbrev s_Deeds_is_cut : Stmt := inClass (topS 68) 6
abbrev s_Deeds_is_block : Stmt := inClass (topS 68) 7
abbrev s_are_closed : Stmt := topS 69
abbrev s_is_last_a_bar : Stmt := topS 72
abbrev s_are_neighbours : Stmt := topS 73
abbrev s_fits_write : Stmt := topS 74
abbrev s_fits_blocks : Stmt := topS 77
abbrev s_fits_past : Stmt := topS 79
abbrev s_made : Stmt := topS 80
abbrev s_need_history : Stmt := topS 81
abbrev s_part : Stmt := topS 82
abbrev s_block_looked_at : Stmt := topS 84
abbrev s_row_of : Stmt := topS 85
abbrev s_parent_of : Stmt := topS 86
abbrev s_open_row_signs : Stmt := topS 87
abbrev s__law_so : Stmt := topS 90
abbrev s__law_numbers : Stmt := topS 91
abbrev s__law_draw : Stmt := topS 92
abbrev s__law_id : Stmt := topS 93
abbrev s__law_known : Stmt := topS 94
abbrev s__law_both : Stmt := topS 98
abbrev s__law_mixed : Stmt := topS 99
abbrev s__law_above : Stmt := topS 100
abbrev s__law_tree : Stmt := topS 101
abbrev s__law_row : Stmt := topS 102
abbrev s__law_written : Stmt := topS 103
abbrev s__law_places : Stmt := topS 104
abbrev s__law_agrees : Stmt := topS 105
abbrev s__law_refused : Stmt := topS 106
abbrev s_law : Stmt := topS 107
abbrev s_NoBlock___init__ : Stmt := inClass (topS 47) 0
abbrev s_NoSign___init__ : Stmt := inClass (topS 48) 0
end K20
namespace K20H
open K20
section
open PySem PySem.Spec PyProof.Rows L2
def partKeys : List Str := ["write", "erase", "mark", "note", "block", "move", "drop", "undo", "redo", "bar", "let", "settle", "say"]
abbrev dI : He.Defn := ("Deeds", some "__init__")
def fa0 : List He.Fa := [.free "all", .free "any", .free "bool", .free "int", .free "isinstance", .free "len", .free "list", .free "max", .free "min", .free "range", .free "sorted", .free "str", .free "sum", .free "tuple", .free "zip", .glo "is_integer", .glo "is_number", .glo "is_clock", .glo "is_within", .glo "counts_id", .glo "act_of", .glo "named_by", .glo "is_block", .glo "blocks_in", .glo "trees_of", .glo "row", .glo "passed", .glo "open_row_core_signs", .glo "is_hand", .glo "is_string_of"]
def fa1 : List He.Fa := [.glo "is_word", .glo "is_text", .glo "is_deed_id", .glo "is_block_id", .glo "is_sign_id", .glo "is_part", .glo "is_act", .glo "is_deed", .glo "id_of", .glo "are_closed", .glo "is_last_a_bar", .glo "are_neighbours", .glo "fits_write", .glo "fits_blocks", .glo "fits_past", .glo "made", .glo "need_history", .glo "part", .glo "block_looked_at", .glo "row_of", .glo "parent_of", .glo "open_row_signs", .glo "_law_so", .glo "_law_numbers", .glo "_law_draw", .glo "_law_id", .glo "_law_known", .glo "_law_both", .glo "_law_mixed", .glo "_law_above"]
def fa2 : List He.Fa := [.glo "_law_tree", .glo "_law_row", .glo "_law_written", .glo "_law_places", .glo "_law_agrees", .glo "_law_refused", .glo "law", .glo "SignTrees", .cls "SignTrees", .mkr "SignTrees", .meth "SignTrees" "hang_text", .meth "SignTrees" "hang", .meth "SignTrees" "place_between", .meth "SignTrees" "is_above", .meth "SignTrees" "row_under", .glo "Deeds", .cls "Deeds", .mkr "Deeds", .meth "Deeds" "greatest_time", .meth "Deeds" "has", .meth "Deeds" "within", .meth "Deeds" "in_turn", .meth "Deeds" "clock", .meth "Deeds" "is_cut", .meth "Deeds" "is_block", .noat "SignTrees" "parent", .noat "SignTrees" "block_of", .noat "SignTrees" "below", .noat "Deeds" "by_id", .noat "Deeds" "time"]
def fa3 : List He.Fa := [.noat "Deeds" "kept", .noat "Deeds" "parts", .noat "Deeds" "turn", .glo "HANDS_clocks", .glo "NOUGHT", .glo "ROOT_core_signs", .glo "ROOT_deeds", .glo "PARTS", .glo "NoBlock", .glo "NoSign", .str "LETTERS" "abcdefghijklmnopqrstuvwxyz", .str "TEXT_SIGNS" "abcdefghijklmnopqrstuvwxyz ", .int "MOST_SIGNS" 8]
def fa : List He.Fa := fa0 ++ (fa1 ++ (fa2 ++ (fa3)))
def fn0 : List He.DefD := [⟨("is_integer", none), "is_integer", "is_integer", defArgs s_is_integer, defBody s_is_integer, defScope s_is_integer, [], []⟩, ⟨("is_number", none), "is_number", "is_number", defArgs s_is_number, defBody s_is_number, defScope s_is_number, [], []⟩, ⟨("is_clock", none), "is_clock", "is_clock", defArgs s_is_clock, defBody s_is_clock, defScope s_is_clock, [], []⟩, ⟨("is_within", none), "is_within", "is_within", defArgs s_is_within, defBody s_is_within, defScope s_is_within, [], []⟩, ⟨("counts_id", none), "counts_id", "counts_id", defArgs s_counts_id, defBody s_counts_id, defScope s_counts_id, [], []⟩, ⟨("act_of", none), "act_of", "act_of", defArgs s_act_of, defBody s_act_of, defScope s_act_of, [], []⟩, ⟨("named_by", none), "named_by", "named_by", defArgs s_named_by, defBody s_named_by, defScope s_named_by, [], []⟩, ⟨("is_block", none), "is_block", "is_block", defArgs s_is_block, defBody s_is_block, defScope s_is_block, [], []⟩, ⟨("blocks_in", none), "blocks_in", "blocks_in", defArgs s_blocks_in, defBody s_blocks_in, defScope s_blocks_in, [], []⟩, ⟨("SignTrees", some "__init__"), "__init__", "SignTrees.__init__", defArgs s_SignTrees___init__, defBody s_SignTrees___init__, defScope s_SignTrees___init__, [], []⟩, ⟨("SignTrees", some "hang_text"), "hang_text", "SignTrees.hang_text", defArgs s_SignTrees_hang_text, defBody s_SignTrees_hang_text, defScope s_SignTrees_hang_text, [], []⟩, ⟨("SignTrees", some "hang"), "hang", "SignTrees.hang", defArgs s_SignTrees_hang, defBody s_SignTrees_hang, defScope s_SignTrees_hang, [], []⟩, ⟨("SignTrees", some "place_between"), "place_between", "SignTrees.place_between", defArgs s_SignTrees_place_between, defBody s_SignTrees_place_between, defScope s_SignTrees_place_between, [], []⟩, ⟨("SignTrees", some "is_above"), "is_above", "SignTrees.is_above", defArgs s_SignTrees_is_above, defBody s_SignTrees_is_above, defScope s_SignTrees_is_above, [], []⟩, ⟨("SignTrees", some "row_under"), "row_under", "SignTrees.row_under", defArgs s_SignTrees_row_under, defBody s_SignTrees_row_under, defScope s_SignTrees_row_under, [], []⟩, ⟨("trees_of", none), "trees_of", "trees_of", defArgs s_trees_of, defBody s_trees_of, defScope s_trees_of, [], []⟩, ⟨("row", none), "row", "row", defArgs s_row, defBody s_row, defScope s_row, [], []⟩, ⟨("passed", none), "passed", "passed", defArgs s_passed, defBody s_passed, defScope s_passed, [], []⟩, ⟨("open_row_core_signs", none), "open_row", "open_row", defArgs s_open_row, defBody s_open_row, defScope s_open_row, [], []⟩, ⟨("is_hand", none), "is_hand", "is_hand", defArgs s_is_hand, defBody s_is_hand, defScope s_is_hand, [], []⟩, ⟨("is_string_of", none), "is_string_of", "is_string_of", defArgs s_is_string_of, defBody s_is_string_of, defScope s_is_string_of, [], []⟩, ⟨("is_word", none), "is_word", "is_word", defArgs s_is_word, defBody s_is_word, defScope s_is_word, [], []⟩, ⟨("is_text", none), "is_text", "is_text", defArgs s_is_text, defBody s_is_text, defScope s_is_text, [], []⟩, ⟨("is_deed_id", none), "is_deed_id", "is_deed_id", defArgs s_is_deed_id, defBody s_is_deed_id, defScope s_is_deed_id, [], []⟩, ⟨("is_block_id", none), "is_block_id", "is_block_id", defArgs s_is_block_id, defBody s_is_block_id, defScope s_is_block_id, [], []⟩]
def fn1 : List He.DefD := [⟨("is_sign_id", none), "is_sign_id", "is_sign_id", defArgs s_is_sign_id, defBody s_is_sign_id, defScope s_is_sign_id, [], []⟩, ⟨("is_part", none), "is_part", "is_part", defArgs s_is_part, defBody s_is_part, defScope s_is_part, [], []⟩, ⟨("is_act", none), "is_act", "is_act", defArgs s_is_act, defBody s_is_act, defScope s_is_act, [], []⟩, ⟨("is_deed", none), "is_deed", "is_deed", defArgs s_is_deed, defBody s_is_deed, defScope s_is_deed, [], []⟩, ⟨("id_of", none), "id_of", "id_of", defArgs s_id_of, defBody s_id_of, defScope s_id_of, [], []⟩, ⟨("Deeds", some "__init__"), "__init__", "Deeds.__init__", defArgs s_Deeds___init__, defBody s_Deeds___init__, defScope s_Deeds___init__, [], []⟩, ⟨("Deeds", some "greatest_time"), "greatest_time", "Deeds.greatest_time", defArgs s_Deeds_greatest_time, defBody s_Deeds_greatest_time, defScope s_Deeds_greatest_time, [], []⟩, ⟨("Deeds", some "has"), "has", "Deeds.has", defArgs s_Deeds_has, defBody s_Deeds_has, defScope s_Deeds_has, [], []⟩, ⟨("Deeds", some "within"), "within", "Deeds.within", defArgs s_Deeds_within, defBody s_Deeds_within, defScope s_Deeds_within, [], []⟩, ⟨("Deeds", some "in_turn"), "in_turn", "Deeds.in_turn", defArgs s_Deeds_in_turn, defBody s_Deeds_in_turn, defScope s_Deeds_in_turn, [], []⟩, ⟨("Deeds", some "clock"), "clock", "Deeds.clock", defArgs s_Deeds_clock, defBody s_Deeds_clock, defScope s_Deeds_clock, [], []⟩, ⟨("Deeds", some "is_cut"), "is_cut", "Deeds.is_cut", defArgs s_Deeds_is_cut, defBody s_Deeds_is_cut, defScope s_Deeds_is_cut, [], []⟩, ⟨("Deeds", some "is_block"), "is_block", "Deeds.is_block", defArgs s_Deeds_is_block, defBody s_Deeds_is_block, defScope s_Deeds_is_block, [], []⟩, ⟨("are_closed", none), "are_closed", "are_closed", defArgs s_are_closed, defBody s_are_closed, defScope s_are_closed, [], []⟩, ⟨("is_last_a_bar", none), "is_last_a_bar", "is_last_a_bar", defArgs s_is_last_a_bar, defBody s_is_last_a_bar, defScope s_is_last_a_bar, [], []⟩, ⟨("are_neighbours", none), "are_neighbours", "are_neighbours", defArgs s_are_neighbours, defBody s_are_neighbours, defScope s_are_neighbours, [], []⟩, ⟨("fits_write", none), "fits_write", "fits_write", defArgs s_fits_write, defBody s_fits_write, defScope s_fits_write, [], []⟩, ⟨("fits_blocks", none), "fits_blocks", "fits_blocks", defArgs s_fits_blocks, defBody s_fits_blocks, defScope s_fits_blocks, [], []⟩, ⟨("fits_past", none), "fits_past", "fits_past", defArgs s_fits_past, defBody s_fits_past, defScope s_fits_past, [], []⟩, ⟨("made", none), "made", "made", defArgs s_made, defBody s_made, defScope s_made, [], []⟩, ⟨("need_history", none), "need_history", "need_history", defArgs s_need_history, defBody s_need_history, defScope s_need_history, [], []⟩, ⟨("part", none), "part", "part", defArgs s_part, defBody s_part, defScope s_part, [], []⟩, ⟨("block_looked_at", none), "block_looked_at", "block_looked_at", defArgs s_block_looked_at, defBody s_block_looked_at, defScope s_block_looked_at, [], []⟩, ⟨("row_of", none), "row_of", "row_of", defArgs s_row_of, defBody s_row_of, defScope s_row_of, [], []⟩, ⟨("parent_of", none), "parent_of", "parent_of", defArgs s_parent_of, defBody s_parent_of, defScope s_parent_of, [], []⟩]
def fn2 : List He.DefD := [⟨("open_row_signs", none), "open_row", "open_row", defArgs s_open_row_signs, defBody s_open_row_signs, defScope s_open_row_signs, [], []⟩, ⟨("_law_so", none), "_law_so", "_law_so", defArgs s__law_so, defBody s__law_so, defScope s__law_so, [], []⟩, ⟨("_law_numbers", none), "_law_numbers", "_law_numbers", defArgs s__law_numbers, defBody s__law_numbers, defScope s__law_numbers, [], []⟩, ⟨("_law_draw", none), "_law_draw", "_law_draw", defArgs s__law_draw, defBody s__law_draw, defScope s__law_draw, [], []⟩, ⟨("_law_id", none), "_law_id", "_law_id", defArgs s__law_id, defBody s__law_id, defScope s__law_id, [], []⟩, ⟨("_law_known", none), "_law_known", "_law_known", defArgs s__law_known, defBody s__law_known, defScope s__law_known, [], []⟩, ⟨("_law_both", none), "_law_both", "_law_both", defArgs s__law_both, defBody s__law_both, defScope s__law_both, [], []⟩, ⟨("_law_mixed", none), "_law_mixed", "_law_mixed", defArgs s__law_mixed, defBody s__law_mixed, defScope s__law_mixed, [], []⟩, ⟨("_law_above", none), "_law_above", "_law_above", defArgs s__law_above, defBody s__law_above, defScope s__law_above, [], []⟩, ⟨("_law_tree", none), "_law_tree", "_law_tree", defArgs s__law_tree, defBody s__law_tree, defScope s__law_tree, [], []⟩, ⟨("_law_row", none), "_law_row", "_law_row", defArgs s__law_row, defBody s__law_row, defScope s__law_row, [], []⟩, ⟨("_law_written", none), "_law_written", "_law_written", defArgs s__law_written, defBody s__law_written, defScope s__law_written, [], []⟩, ⟨("_law_places", none), "_law_places", "_law_places", defArgs s__law_places, defBody s__law_places, defScope s__law_places, [], []⟩, ⟨("_law_agrees", none), "_law_agrees", "_law_agrees", defArgs s__law_agrees, defBody s__law_agrees, defScope s__law_agrees, [], []⟩, ⟨("_law_refused", none), "_law_refused", "_law_refused", defArgs s__law_refused, defBody s__law_refused, defScope s__law_refused, [], []⟩, ⟨("law", none), "law", "law", defArgs s_law, defBody s_law, defScope s_law, [], []⟩, ⟨("NoBlock", some "__init__"), "__init__", "NoBlock.__init__", defArgs s_NoBlock___init__, defBody s_NoBlock___init__, defScope s_NoBlock___init__, [], []⟩, ⟨("NoSign", some "__init__"), "__init__", "NoSign.__init__", defArgs s_NoSign___init__, defBody s_NoSign___init__, defScope s_NoSign___init__, [], []⟩]
def fn : List He.DefD := fn0 ++ (fn1 ++ (fn2))
def ts : List He.Tab := [(fun K => He.ga K "PARTS", partKeys)]
def tf : List He.Defn := [dI]
/-- an own error class with its own maker -/
def oxB (K : PySem.W.Frag) (C : Addr) : Bool := (match K.lookup C with
  | some ⟨.type t, _, .cls cd, sl⟩ => decide (t = "type") && (match cd.mro, sl.toList with
    | .ref C' :: bm, [_, _, _, _, some (.builtin n), _] => decide (C' = C) && (decide (n = "ValueError.__new__") && (decide (cd.hasDel = false) && (decide (cd.hasDict = true) && PySem.HandSPX.refsVE bm)))
    | _, _ => false)
  | _ => false) && (decide (PySem.W.findIn K (.ref C) "__setattr__" = some (some (.builtin "object.__setattr__"))) && (decide (PySem.W.subIn K (.ref C) (.type "BaseException") = some true) && (decide (PySem.W.typeIn K (.ref C) = some (.type "type")) && PySem.W.keepIn K (.ref C))))
theorem oxB_ok {K : PySem.W.Frag} {C : Addr} (h : oxB K C = true) : OexC K C := by
  obtain ⟨h1, h⟩ := Bool.and_eq_true_iff.mp h
  obtain ⟨h2, h⟩ := Bool.and_eq_true_iff.mp h
  obtain ⟨h3, h⟩ := Bool.and_eq_true_iff.mp h
  obtain ⟨h4, h5⟩ := Bool.and_eq_true_iff.mp h
  refine ⟨?_, of_decide_eq_true h2, of_decide_eq_true h3, of_decide_eq_true h4, h5⟩
  split at h1
  · rename_i t dd cd sl ho
    obtain ⟨et, h1⟩ := Bool.and_eq_true_iff.mp h1
    obtain rfl := of_decide_eq_true et
    split at h1
    · rename_i C2 bm j0 j1 j2 j3 n j5 hm hs
      try obtain ⟨_, h1⟩ := Bool.and_eq_true_iff.mp h1
      obtain ⟨e1, h1⟩ := Bool.and_eq_true_iff.mp h1
      obtain ⟨e2, h1⟩ := Bool.and_eq_true_iff.mp h1
      obtain ⟨e3, h1⟩ := Bool.and_eq_true_iff.mp h1
      obtain ⟨e4, e5⟩ := Bool.and_eq_true_iff.mp h1
      obtain rfl := of_decide_eq_true e1
      obtain rfl := of_decide_eq_true e2
      obtain ⟨c1, c2, c3, c4, c5, c6, c7, c8, c9, c10, c11⟩ := cd
      have q3 : c11 = false := of_decide_eq_true e3
      have q4 : c6 = true := of_decide_eq_true e4
      have q5 : c3 = .ref C2 :: bm := hm
      subst q3 q4 q5
      obtain ⟨l⟩ := sl
      dsimp only at hs
      subst hs
      exact ⟨c1, c5, c4, c2, bm, c7, c8, c9, c10, dd, j0, j1, j2, j3, j5, ho, e5⟩
    · cases h1
  · cases h1
/-- the error x with the field f -/
def errB (K : PySem.W.Frag) (x f : Str) : Bool := oxB K (He.ga K x) && (xfB K (He.ga K x) && (decide (PySem.W.findIn K (.ref (He.ga K x)) "__init__" = some (some (.ref (He.fAd K (x, some "__init__"))))) && (decide (PySem.W.typeIn K (.ref (He.fAd K (x, some "__init__"))) = some (.type "function")) && (decide (PySem.W.findIn K (.ref (He.ga K x)) f = some none) && decide (PySem.W.exmOne K (.ref (He.ga K x)) (.ref (He.ga K x)) = some true)))))
def exB (K : PySem.W.Frag) : Bool := He.tupB K "HANDS_clocks" [.int 1, .int 2, .int 3, .int 4] && (He.tupB K "NOUGHT" [.int 0, .int 0, .int 0, .int 0] && (He.tupB K "ROOT_core_signs" [.int 0, .int 0] && (He.tupB K "ROOT_deeds" [.int 0, .int 0] &&
  (He.valsB K (He.ga K "PARTS") [("write", .str "bppt"), ("block", .str "bB")] && (errB K "NoBlock" "block" && errB K "NoSign" "sign")))))

end
section
open PySem PySem.W PySem.Calls PyProof.Rows
abbrev R : OpenRow := OpenLaw.row PySem.Challenge.rw_quillmoot_k20_whole_rows_by_own_trees
abbrev qv : Program := view R.prog [107]
def nm0 : List PySem.Str := ["_wall", "HANDS_clocks", "NOUGHT", "is_integer", "is_number", "is_clock", "joined", "is_within", "counts_id", "OWNER", "act_of", "named_by"]
def nm1 : List PySem.Str := ["is_lifted", "bars_of", "barred", "settled", "target_of", "late", "last_change", "undone", "counts", "ROOT_core_signs", "HANDS_core_signs", "NEVER"]
def nm2 : List PySem.Str := ["is_block", "blocks_in", "signs_by", "is_counted", "clock_to", "clock_in", "signs_named", "SignTrees", "trees_of", "row", "first_shut", "Going"]
def nm3 : List PySem.Str := ["going_of", "passed", "open_row", "open_row_core_signs", "MootError", "InvalidHistory", "InvalidClock", "NoBlock", "NoSign", "ROOT_deeds", "MOST_SIGNS", "LETTERS"]
def nm4 : List PySem.Str := ["TEXT_SIGNS", "PARTS", "is_hand", "is_string_of", "is_word", "is_text", "is_deed_id", "is_block_id", "is_sign_id", "is_erased", "is_part", "is_act"]
def nm5 : List PySem.Str := ["is_deed", "id_of", "Deeds", "are_closed", "UNDONE_WORDS", "is_last_a_bar", "are_neighbours", "fits_write", "is_open", "fits_span", "fits_blocks", "fits_undo"]
def nm6 : List PySem.Str := ["fits_past", "made", "need_history", "part", "block_looked_at", "row_of", "parent_of", "open_row_signs", "_law_so", "_law_numbers", "_law_draw", "_law_id"]
def nm7 : List PySem.Str := ["_law_known", "_law_times", "_law_turned", "_law_clock", "_law_both", "_law_mixed", "_law_above", "_law_tree", "_law_row", "_law_written", "_law_places", "_law_agrees"]
def nm8 : List PySem.Str := ["_law_refused"]
def names : List PySem.Str := nm0 ++ (nm1 ++ (nm2 ++ (nm3 ++ (nm4 ++ (nm5 ++ (nm6 ++ (nm7 ++ (nm8))))))))
/-! ### what is looked at: the names' objects, the classes' methods, their code -/
def vals (g : Addr → Option Obj) (a : Addr) : List Addr := match g a with
  | some ⟨_, _, .dict es _, _⟩ => es.toList.flatMap fun e => He.refV e.val
  | _ => []
def steps (g : Addr → Option Obj) (a : Addr) : List Addr := match g a with
  | some ⟨_, _, .func fd, _⟩ => He.refV fd.code
  | some ⟨_, _, .cls cd, _⟩ => [cd.ns]
  | _ => []
def as2 (g : Addr → Option Obj) (l : List Addr) : List Addr := l ++ l.flatMap (steps g)
def as1 (g : Addr → Option Obj) (l m : List Addr) : List Addr := l ++ (m ++ as2 g (m.flatMap (vals g)))
def as0 (g : Addr → Option Obj) (l : List Addr) : List Addr := as1 g l (l.flatMap (steps g))
def asY (g : Addr → Option Obj) : List Addr := mainGlobals :: as0 g (vals g mainGlobals)
def obsY (fs : List He.Fa) (ds : List He.DefD) (tb : List He.Tab) (df : List He.Defn) (ex : PySem.W.Frag → Bool) (g : Addr → Option Obj) : He.AlX := (He.obsT fs ds tb (He.frT g (asY g)), ex (He.frT g (asY g)) && He.tabsB g df (He.frT g (asY g)))
theorem says_of {as : List Addr} {fs : List He.Fa} {ds : List He.DefD} {tb : List He.Tab} {df : List He.Defn} {ex : PySem.W.Frag → Bool} {w : World} {h : Heap} (e : (He.obsT fs ds tb (He.frT h.get? as), ex (He.frT h.get? as) && He.tabsB h.get? df (He.frT h.get? as)) = He.valX ds tb w) : He.SaysX fs ds tb df ex w h (He.frT h.get? as) := by
  obtain ⟨e1, e2⟩ := Prod.mk.inj e
  obtain ⟨x1, x2⟩ := Bool.and_eq_true_iff.mp e2
  have each : ∀ p ∈ df, PySem.W.codeHdIn (He.frT h.get? as) (He.cT (He.frT h.get? as) p).1 (He.cT (He.frT h.get? as) p).2 = true ∧ ∃ o, h.get? (He.cT (He.frT h.get? as) p).2 = some o ∧ He.emptyTab o = true := fun p hp => by
    obtain ⟨y1, y2⟩ := Bool.and_eq_true_iff.mp (List.all_eq_true.mp x2 p hp)
    refine ⟨y1, ?_⟩
    cases z : h.get? (He.cT (He.frT h.get? as) p).2 with
    | none => rw [z] at y2; cases y2
    | some o => rw [z] at y2; exact ⟨o, rfl, y2⟩
  exact { t := e1, more := x1, hd := fun p hp => (each p hp).1, out := fun p hp => (let ⟨_, _, q, z⟩ := each p hp; He.frT_none q z), empty := fun p hp => (by obtain ⟨_, o, q, z⟩ := each p hp; rw [q, He.emptyTab_eq z]) }
def hookY (fs : List He.Fa) (ds : List He.DefD) (tb : List He.Tab) (df : List He.Defn) (ex : PySem.W.Frag → Bool) : PySem.W.Hook where
  α := He.AlX
  obs s := obsY fs ds tb df ex s.heap.get?
  val w := He.valX ds tb w
  says w h := ∃ K : PySem.W.Frag, K.In h ∧ He.SaysX fs ds tb df ex w h K
  of _ _ e := ⟨_, He.frT_in, says_of e⟩
  keeps _ _ _ := fun ⟨K, kin, c⟩ up => ⟨K, PySem.W.Frag.In.keeps kin up, { c with empty := fun p hp => up _ _ (c.empty p hp) }⟩
abbrev hk : PySem.W.Hook := hookY fa fn ts tf exB
def ob (s : PySem.W.SharedT) : He.AlX := obsY fa fn ts tf exB (HandSHeadRun.getT s)
theorem ob_eq (s : PySem.W.SharedT) : ob s = hk.obs s.abs := by
  show obsY fa fn ts tf exB (HandSHeadRun.getT s) = obsY fa fn ts tf exB s.abs.heap.get?
  rw [show HandSHeadRun.getT s = s.abs.heap.get? from funext (HandSHeadRun.getT_eq s)]
theorem headF (w : World) : HandSHeadRun.RunEq R qv hk ob 20000 names (w.withFollow "special-get-raises" false) := by
  intro os
  kernel_rfl
theorem headT (w : World) : HandSHeadRun.RunEq R qv hk ob 20000 names (w.withFollow "special-get-raises" true) := by
  intro os
  kernel_rfl
theorem headRun (w : World) : HandSHeadRun.RunEq R qv hk ob 20000 names w := by
  revert w
  exact byRow2 "special-get-raises" headF headT
end
end K20H
namespace K20
open PySem PySem.Spec PyProof.Rows L2
abbrev Fg := PySem.W.Frag
abbrev D := NestedKey
mutual
/-- the value v stands for the datum d -/
inductive Dt (K : Fg) (H : Hp) : V → D → Prop
  | non : Dt K H .non .none
  | int (i : Int) : Dt K H (.int i) (.num i)
  | str (x : Str) : Dt K H (.str x) (.text x)
  | tup {a : Addr} {xs : List V} {ds : List D} : SqT K H a xs → DtL K H xs ds → Dt K H (.ref a) (.tup ds)
inductive DtL (K : Fg) (H : Hp) : List V → List D → Prop
  | nil : DtL K H [] []
  | cons {v : V} {vs : List V} {d : D} {ds : List D} : Dt K H v d → DtL K H vs ds → DtL K H (v :: vs) (d :: ds)
end
section
variable {K : Fg} {H H' : Hp}
mutual
theorem Dt.mono (h : ∀ a xs, SqT K H a xs → SqT K H' a xs) : ∀ {v : V} (d : D), Dt K H v d → Dt K H' v d
  | _, .none, .non => .non
  | _, .num i, .int _ => .int _
  | _, .text x, .str _ => .str _
  | _, .tup ds, .tup s l => .tup (h _ _ s) (DtL.mono h ds l)
theorem DtL.mono (h : ∀ a xs, SqT K H a xs → SqT K H' a xs) : ∀ {vs : List V} (ds : List D), DtL K H vs ds → DtL K H' vs ds
  | _, [], .nil => .nil
  | _, d :: ds, .cons a b => .cons (Dt.mono h d a) (DtL.mono h ds b)
end
theorem DtL.length : ∀ {vs : List V} {ds : List D}, DtL K H vs ds → vs.length = ds.length
  | _, _, .nil => rfl
  | _, _, .cons _ b => by rw [List.length_cons, List.length_cons, DtL.length b]
theorem DtL.at : ∀ {vs : List V} {ds : List D} {i : Nat} {d : D}, DtL K H vs ds → ds[i]? = some d → ∃ v, vs[i]? = some v ∧ Dt K H v d
  | _, _, _, _, .nil, e => by simp at e
  | _, _, 0, _, .cons a _, e => ⟨_, rfl, by cases e; exact a⟩
  | _, _, i + 1, _, .cons _ b, e => by
    obtain ⟨v, h1, h2⟩ := DtL.at (i := i) b (by simpa using e)
    exact ⟨v, by simpa using h1, h2⟩
theorem DtL.app : ∀ {vs ws : List V} {ds es : List D}, DtL K H vs ds → DtL K H ws es → DtL K H (vs ++ ws) (ds ++ es)
  | _, _, _, _, .nil, h => h
  | _, _, _, _, .cons a b, h => .cons a (DtL.app b h)
theorem DtL.drop : ∀ {vs : List V} {ds : List D} (n : Nat), DtL K H vs ds → DtL K H (vs.drop n) (ds.drop n)
  | _, _, 0, h => h
  | _, _, _ + 1, .nil => .nil
  | _, _, n + 1, .cons _ b => DtL.drop n b
theorem DtL.take : ∀ {vs : List V} {ds : List D} (n : Nat), DtL K H vs ds → DtL K H (vs.take n) (ds.take n)
  | _, _, 0, _ => .nil
  | _, _, _ + 1, .nil => .nil
  | _, _, n + 1, .cons a b => .cons a (DtL.take n b)
theorem Dt.num_inv {v : V} {i : Int} (h : Dt K H v (.num i)) : v = .int i := by cases h; rfl
theorem Dt.text_inv {v : V} {x : Str} (h : Dt K H v (.text x)) : v = .str x := by cases h; rfl
theorem Dt.none_inv {v : V} (h : Dt K H v .none) : v = .non := by cases h; rfl
theorem Dt.tup_inv {v : V} {ds : List D} (h : Dt K H v (.tup ds)) : ∃ a xs, v = .ref a ∧ SqT K H a xs ∧ DtL K H xs ds := by
  cases h with
  | tup s l => exact ⟨_, _, rfl, s, l⟩
end
section
variable {X : Cx} {pins : List (Addr × Obj)} {σ : L2.St} {H : Hp} {s : Shared}
mutual
theorem Dt.nested (I : Inv X pins σ H s) : ∀ {v : V} (d : D) {u : Value}, Dt X.K H v d → RelV v u → NestedIs s.heap d u
  | _, .none, u, .non, r => by cases r; exact .none
  | _, .num i, u, .int _, r => by obtain ⟨t, rfl⟩ := r; exact .int _ _
  | _, .text x, u, .str _, r => by obtain ⟨t, rfl⟩ := r; exact .text _ _
  | _, .tup ds, u, .tup sq l, r => by
    cases r
    obtain ⟨its, rv, ⟨o, ho, hc, n, hd⟩, _⟩ := I.tuple sq
    exact .tup ho hc hd (by simpa using DtL.nested I ds l rv)
theorem DtL.nested (I : Inv X pins σ H s) : ∀ {vs : List V} (ds : List D) {us : List Value}, DtL X.K H vs ds → Vals vs us → NestedAll s.heap ds us
  | _, [], _, .nil, r => by cases r; exact .nil
  | _, d :: ds, _, .cons a b, r => by
    cases r with
    | cons r1 r2 => exact .cons (Dt.nested I d a r1) (DtL.nested I ds b r2)
end
mutual
theorem Dt.reads (I : Inv X pins σ H s) : ∀ {v : V} (d : D) {u : Value}, Dt X.K H v d → RelV v u → Reads s.heap u d.data []
  | _, .none, u, .non, r => by cases r; exact .none
  | _, .num i, u, .int _, r => by obtain ⟨t, rfl⟩ := r; exact .int _ _
  | _, .text x, u, .str _, r => by obtain ⟨t, rfl⟩ := r; exact .str _ _
  | _, .tup ds, u, .tup sq l, r => by
    cases r
    obtain ⟨its, rv, ⟨o, ho, hc, n, hd⟩, _⟩ := I.tuple sq
    exact .tuple ho hc hd (by simpa using DtL.reads I ds l rv)
theorem DtL.reads (I : Inv X pins σ H s) : ∀ {vs : List V} (ds : List D) {us : List Value}, DtL X.K H vs ds → Vals vs us → ReadsAll s.heap us (NestedKey.datas ds) []
  | _, [], _, .nil, r => by cases r; exact .nil
  | _, d :: ds, _, .cons a b, r => by
    cases r with
    | cons r1 r2 => exact ReadsAll.cons (as := []) (bs := []) (Dt.reads I d a r1) (DtL.reads I ds b r2)
end
end
mutual
theorem eqv_data : ∀ a b : D, PyData.eqv a.data b.data = NestedKey.beq a b
  | .none, .none => rfl
  | .num a, .num b => by simp only [NestedKey.data, PyData.eqv, NestedKey.beq]; exact Bool.beq_eq_decide_eq a b
  | .text a, .text b => by simp only [NestedKey.data, PyData.eqv, NestedKey.beq]; exact Bool.beq_eq_decide_eq a b
  | .tup a, .tup b => by simp only [NestedKey.data, PyData.eqv, NestedKey.beq]; exact eqv_datas a b
  | .none, .num _ | .none, .text _ | .none, .tup _ => by simp [NestedKey.data, PyData.eqv, NestedKey.beq]
  | .num _, .none | .num _, .text _ | .num _, .tup _ => by simp [NestedKey.data, PyData.eqv, NestedKey.beq]
  | .text _, .none | .text _, .num _ | .text _, .tup _ => by simp [NestedKey.data, PyData.eqv, NestedKey.beq]
  | .tup _, .none | .tup _, .num _ | .tup _, .text _ => by simp [NestedKey.data, PyData.eqv, NestedKey.beq]
theorem eqv_datas : ∀ a b : List D, PyData.eqvAll (NestedKey.datas a) (NestedKey.datas b) = NestedKey.beqAll a b
  | [], [] => rfl
  | a :: as, b :: bs => by simp only [NestedKey.datas, PyData.eqvAll, NestedKey.beqAll]; rw [eqv_data a b, eqv_datas as bs]
  | [], _ :: _ => by simp [NestedKey.datas, PyData.eqvAll, NestedKey.beqAll]
  | _ :: _, [] => by simp [NestedKey.datas, PyData.eqvAll, NestedKey.beqAll]
end
/-! no text in it, or a plain one; not deeper than eight -/
mutual
def plainD : D → Bool
  | .none => true
  | .num _ => true
  | .text x => PyData.canLay0 (.str x)
  | .tup l => plainL l
def plainL : List D → Bool
  | [] => true
  | d :: ds => plainD d && plainL ds
end
mutual
theorem canLay_plain : ∀ d : D, plainD d = true → d.data.canLay0 = true
  | .none, _ => rfl
  | .num _, _ => rfl
  | .text _, h => h
  | .tup l, h => canLay_plains l h
theorem canLay_plains : ∀ l : List D, plainL l = true → PyData.canLayAll0 (NestedKey.datas l) = true
  | [], _ => rfl
  | d :: ds, h => by
    obtain ⟨a, b⟩ := Bool.and_eq_true_iff.mp h
    show (PyData.canLay0 d.data && PyData.canLayAll0 (NestedKey.datas ds)) = true
    rw [canLay_plain d a, canLay_plains ds b]
    rfl
end
mutual
theorem depth_data : ∀ d : D, d.data.depth = d.depth
  | .none => rfl
  | .num _ => rfl
  | .text _ => rfl
  | .tup l => congrArg (· + 1) (depth_datas l)
theorem depth_datas : ∀ l : List D, PyData.depthAll (NestedKey.datas l) = NestedKey.depthAll l
  | [] => rfl
  | d :: ds => by
    show max d.data.depth (PyData.depthAll (NestedKey.datas ds)) = max d.depth (NestedKey.depthAll ds)
    rw [depth_data d, depth_datas ds]
end
/-- what may be compared, be a key -/
def okD (d : D) : Bool := plainD d && decide (d.depth ≤ 8)
theorem okD.sh {d : D} (h : okD d = true) : SeqAt.shaped d.data = true := by
  obtain ⟨a, b⟩ := Bool.and_eq_true_iff.mp h
  unfold SeqAt.shaped
  rw [canLay_plain d a, depth_data, Bool.true_and]
  exact decide_eq_true (Nat.le_trans (of_decide_eq_true b) (by decide))
theorem okD.dp {d : D} (h : okD d = true) : d.depth ≤ 8 := of_decide_eq_true (Bool.and_eq_true_iff.mp h).2

/-! ### == -/
section
variable {X : Cx}
def rEqK (K : Fg) : R2 := fun x y H Q => ∃ d e, Dt K H x d ∧ Dt K H y e ∧ okD d = true ∧ okD e = true ∧ Q (.bl (decide (d = e))) H
def rNeK (K : Fg) : R2 := fun x y H Q => ∃ d e, Dt K H x d ∧ Dt K H y e ∧ okD d = true ∧ okD e = true ∧ Q (.bl (!decide (d = e))) H
theorem op_eqK (hu : X.A.units + 64 < cLine) : OpR X (compareOp .Eq) (rEqK X.K) := by
  intro pins s σ H x y v u Q I rx ry h
  obtain ⟨d, e, hd, he, sd, se, q⟩ := h
  refine SeqAt.compareEq_shaped (Dt.reads I d hd rx) (Dt.reads I e he ry) (okD.sh sd) (okD.sh se) hu ⟨.bl _, H, I, rfl, ?_⟩
  rw [eqv_data, ← NestedKey.decide_eq]
  exact q
theorem op_neK (hu : X.A.units + 64 < cLine) : OpR X (compareOp .NotEq) (rNeK X.K) := by
  intro pins s σ H x y v u Q I rx ry h
  obtain ⟨d, e, hd, he, sd, se, q⟩ := h
  refine SeqAt.compareNe_shaped (Dt.reads I d hd rx) (Dt.reads I e he ry) (okD.sh sd) (okD.sh se) hu ⟨.bl _, H, I, rfl, ?_⟩
  rw [eqv_data, ← NestedKey.decide_eq]
  exact q
end
end K20
namespace K20
open PySem PySem.Spec PyProof.Rows L2

/-! ### all stays, but the tables of code objects -/
structure Rp (T : List (Addr × Str)) (H H' : Hp) : Prop where
  keep : ∀ a o, H a = some o → (∀ ps, o ≠ .tbl ps) → H' a = some o
  tabs : LamX.Tabs T H → LamX.Tabs T H'
theorem Rp.tabs_upd {T : List (Addr × Str)} {H : Hp} {p : Addr} {o : HO} (t : LamX.Tabs T H) (h1 : ∀ ps, H p ≠ some (.tbl ps)) (h2 : ∀ q, H p ≠ some (LamX.CodeO p q)) : LamX.Tabs T (upd H p o) := fun z hz => by
  obtain ⟨ps, a1, a2, a3⟩ := t z hz
  refine ⟨ps, by rw [upd_ne (fun e => h1 ps (by rw [← e]; exact a1))]; exact a1, a2, fun pos cv hc => ?_⟩
  obtain ⟨c, e1, e2⟩ := a3 pos cv hc
  refine ⟨c, e1, ?_⟩
  rw [upd_ne (fun e => h2 z.2 (by rw [← e]; exact e2))]
  exact e2
section
variable {K : Fg} {T : List (Addr × Str)} {H H' H1 H2 : Hp} {p a C dx : Addr} {o u : HO} {xs : List V} {fs : List (Str × V)}
theorem Rp.refl (H : Hp) : Rp T H H := ⟨fun _ _ h _ => h, fun h => h⟩
theorem Rp.trans (a : Rp T H H1) (b : Rp T H1 H2) : Rp T H H2 := ⟨fun c o h n => b.keep c o (a.keep c o h n) n, fun h => b.tabs (a.tabs h)⟩
theorem Rp.new (hp : H p = none) : Rp T H (upd H p o) := ⟨fun a o' h _ => by rw [upd_ne (ne_of_none h hp)]; exact h, fun t => Rp.tabs_upd t (fun ps e => by rw [hp] at e; cases e) (fun q e => by rw [hp] at e; cases e)⟩
theorem Rp.tup (r : Rp T H H') (h : SqT K H a xs) : SqT K H' a xs := by
    rcases h with (h | ⟨o, h⟩) | h
    · exact .inl (.inl (r.keep _ _ h fun _ z => by cases z))
    · exact .inl (.inr ⟨o, r.keep _ _ h fun _ z => by cases z⟩)
    · exact .inr h
theorem Rp.lst (r : Rp T H H') (h : H a = some (.lst xs)) : H' a = some (.lst xs) := r.keep _ _ h fun _ z => by cases z
theorem Rp.ins (r : Rp T H H') (h : H a = some (.ins C dx fs)) : H' a = some (.ins C dx fs) := r.keep _ _ h fun _ z => by cases z
/-- new, or a table -/
def Nw (H : Hp) (p : Addr) : Prop := ∀ o, H p = some o → ∃ ps, o = .tbl ps
theorem Nw.of (h : H p = none) : Nw H p := fun o e => by rw [h] at e; cases e
theorem Rp.nw (r : Rp T H H1) (h : Nw H1 p) : Nw H p := fun o e => by
  by_cases n : ∃ ps, o = HO.tbl ps
  · exact n
  · exact h o (r.keep p o e fun ps z => n ⟨ps, z⟩)
theorem Rp.chg (r : Rp T H H1) (hp : Nw H p) (h1 : H1 p = some u) (n1 : ∀ ps, u ≠ .tbl ps) (n2 : ∀ q, u ≠ LamX.CodeO p q) : Rp T H (upd H1 p o) := ⟨fun a o' h n => by
    by_cases hap : a = p
    · subst hap
      obtain ⟨ps, z⟩ := hp o' h
      exact absurd z (n ps)
    · rw [upd_ne hap]
      exact r.keep a o' h n, fun t => Rp.tabs_upd (r.tabs t) (fun ps e => by rw [h1] at e; exact n1 ps (Option.some.inj e)) (fun q e => by rw [h1] at e; exact n2 q (Option.some.inj e))⟩
theorem Rp.chgLN (r : Rp T H H1) (hp : Nw H p) (h1 : H1 p = some (.lst xs)) : Rp T H (upd H1 p o) := r.chg hp h1 (fun _ z => by cases z) (fun _ z => by unfold LamX.CodeO at z; cases z)
theorem Rp.chgIN (r : Rp T H H1) (hp : Nw H p) (h1 : H1 p = some (.ins C dx fs)) : Rp T H (upd H1 p o) := r.chg hp h1 (fun _ z => by cases z) (fun _ z => by unfold LamX.CodeO at z; cases z)
theorem Rp.chgL (r : Rp T H H1) (hp : H p = none) (h1 : H1 p = some (.lst xs)) : Rp T H (upd H1 p o) := r.chg (Nw.of hp) h1 (fun _ z => by cases z) (fun _ z => by unfold LamX.CodeO at z; cases z)
theorem Rp.chgI (r : Rp T H H1) (hp : H p = none) (h1 : H1 p = some (.ins C dx fs)) : Rp T H (upd H1 p o) := r.chg (Nw.of hp) h1 (fun _ z => by cases z) (fun _ z => by unfold LamX.CodeO at z; cases z)
end

section
variable {K : Fg} {T : List (Addr × Str)} {H H' : Hp}
/-- what a value is known to be, as it stays -/
class Mono (T : List (Addr × Str)) {β : Type} (Y : Hp → V → β → Prop) : Prop where
  mono : ∀ {H H' : Hp} {v : V} {b : β}, Rp T H H' → Y H v b → Y H' v b
def yV : Hp → V → V → Prop := fun _ v x => v = x
def yI : Hp → V → Int → Prop := fun _ v i => v = .int i
def yB : Hp → V → Bool → Prop := fun _ v b => v = .bl b
def yS : Hp → V → Str → Prop := fun _ v x => v = .str x
abbrev yD (K : Fg) : Hp → V → D → Prop := Dt K
def All2 {α β : Type} (f : α → β → Prop) : List α → List β → Prop := fun l m => Paired f l m
/-- a list (tracked) of these -/
def yL {β : Type} (Y : Hp → V → β → Prop) : Hp → V → List β → Prop := fun H v bs => ∃ a vs, v = .ref a ∧ H a = some (.lst vs) ∧ Paired (Y H) vs bs
/-- a tuple of these -/
def yT {β : Type} (K : Fg) (Y : Hp → V → β → Prop) : Hp → V → List β → Prop := fun H v bs => ∃ a vs, v = .ref a ∧ SqT K H a vs ∧ Paired (Y H) vs bs
/-- a pair -/
def yP {β γ : Type} (K : Fg) (Y : Hp → V → β → Prop) (Z : Hp → V → γ → Prop) : Hp → V → β × γ → Prop := fun H v b => ∃ a x y, v = .ref a ∧ SqT K H a [x, y] ∧ Y H x b.1 ∧ Z H y b.2
/-- tuples stay -/
def Tk (H H' : Hp) : Prop := ∀ (K : Fg) a xs, SqT K H a xs → SqT K H' a xs
theorem Tk.refl (H : Hp) : Tk H H := fun _ _ _ h => h
theorem Tk.trans {H1 : Hp} (a : Tk H H1) (b : Tk H1 H') : Tk H H' := fun K c xs h => b K c xs (a K c xs h)
theorem Rp.tk (r : Rp T H H') : Tk H H' := fun _ _ _ h => r.tup h
/-- what is no tuple is changed -/
theorem Tk.upd {p : Addr} {o u : HO} (h : H p = some u) (n : ∀ xs, u ≠ .tup xs) (n2 : ∀ ob xs, u ≠ .frz ob (.tup xs)) : Tk H (upd H p o) := fun K a xs q => by
  rcases q with (q | ⟨ob, q⟩) | q
  · exact .inl (.inl (by rw [upd_ne (fun e => n xs (by rw [e, h] at q; exact Option.some.inj q))]; exact q))
  · exact .inl (.inr ⟨ob, by rw [upd_ne (fun e => n2 ob xs (by rw [e, h] at q; exact Option.some.inj q))]; exact q⟩)
  · exact .inr q
theorem Tk.updL {p : Addr} {o : HO} {xs : List V} (h : H p = some (.lst xs)) : Tk H (L2.upd H p o) := Tk.upd h (fun _ z => by cases z) (fun _ _ z => by cases z)
/-- it hangs on tuples alone -/
class Imm {β : Type} (Y : Hp → V → β → Prop) : Prop where
  imm : ∀ {H H' : Hp} {v : V} {b : β}, Tk H H' → Y H v b → Y H' v b
instance {β : Type} {Y : Hp → V → β → Prop} [i : Imm Y] : Mono T Y := ⟨fun r h => i.imm r.tk h⟩
instance : Imm yV := ⟨fun _ h => h⟩
instance : Imm yI := ⟨fun _ h => h⟩
instance : Imm yB := ⟨fun _ h => h⟩
instance : Imm yS := ⟨fun _ h => h⟩
instance : Imm (yD K) := ⟨fun r h => Dt.mono (fun _ _ q => r K _ _ q) _ h⟩
theorem paired_imm {β : Type} {Y : Hp → V → β → Prop} [m : Imm Y] (r : Tk H H') {vs : List V} {bs : List β} (h : Paired (Y H) vs bs) : Paired (Y H') vs bs := Paired.mapP h fun _ _ q => m.imm r q
theorem paired_mono {β : Type} {Y : Hp → V → β → Prop} [m : Mono T Y] (r : Rp T H H') {vs : List V} {bs : List β} (h : Paired (Y H) vs bs) : Paired (Y H') vs bs := Paired.mapP h fun _ _ q => m.mono r q
instance {β : Type} {Y : Hp → V → β → Prop} [Mono T Y] : Mono T (yL Y) := ⟨fun r ⟨a, vs, e, h, l⟩ => ⟨a, vs, e, Rp.lst r h, paired_mono r l⟩⟩
instance {β : Type} {Y : Hp → V → β → Prop} [Imm Y] : Imm (yT K Y) := ⟨fun r ⟨a, vs, e, h, l⟩ => ⟨a, vs, e, r K _ _ h, paired_imm r l⟩⟩
instance {β γ : Type} {Y : Hp → V → β → Prop} {Z : Hp → V → γ → Prop} [my : Imm Y] [mz : Imm Z] : Imm (yP K Y Z) := ⟨fun r ⟨a, x, y, e, h, l, m⟩ => ⟨a, x, y, e, r K _ _ h, my.imm r l, mz.imm r m⟩⟩
instance {β : Type} {Y : Hp → V → β → Prop} [Mono T Y] : Mono T (yT K Y) := ⟨fun r ⟨a, vs, e, h, l⟩ => ⟨a, vs, e, Rp.tup r h, paired_mono r l⟩⟩
instance {β γ : Type} {Y : Hp → V → β → Prop} {Z : Hp → V → γ → Prop} [my : Mono T Y] [mz : Mono T Z] : Mono T (yP K Y Z) := ⟨fun r ⟨a, x, y, e, h, l, m⟩ => ⟨a, x, y, e, Rp.tup r h, my.mono r l, mz.mono r m⟩⟩
end

section
variable {K : Fg} {β : Type} {Y : Hp → V → β → Prop} {H : Hp}
theorem at_of_paired {vs : List V} {bs : List β} (h : Paired (Y H) vs bs) {i : Int} {b : β} (e : atI bs i = some b) : ∃ v, atI vs i = some v ∧ Y H v b := by
  unfold atI at e ⊢
  rw [h.length]
  cases q : ixN bs.length i with
  | none => rw [q] at e; cases e
  | some j =>
    rw [q] at e
    have e' : bs[j]? = some b := e
    have go : ∀ {vs : List V} {bs : List β} {j : Nat}, Paired (Y H) vs bs → bs[j]? = some b → ∃ v, vs[j]? = some v ∧ Y H v b := by
      intro vs bs j h
      induction h generalizing j with
      | nil => intro e; simp at e
      | cons a t ih =>
        intro e
        cases j with
        | zero => cases e; exact ⟨_, rfl, a⟩
        | succ j =>
          obtain ⟨v, h1, h2⟩ := ih (j := j) (by simpa using e)
          exact ⟨v, by simpa using h1, h2⟩
    exact go h e'
theorem dtl_paired : ∀ {vs : List V} {ds : List D}, DtL K H vs ds → Paired (yD K H) vs ds
  | _, _, .nil => .nil
  | _, _, .cons a b => .cons a (dtl_paired b)
theorem paired_dtl : ∀ {vs : List V} {ds : List D}, Paired (yD K H) vs ds → DtL K H vs ds
  | _, _, .nil => .nil
  | _, _, .cons a b => .cons a (paired_dtl b)
def cutL {α : Type} (xs : List α) (lo hi : Option Int) : List α := (xs.drop (HT.sIx xs.length 0 lo)).take (HT.sIx xs.length xs.length hi - HT.sIx xs.length 0 lo)
theorem paired_drop {H : Hp} : ∀ {vs : List V} {bs : List β} (n : Nat), Paired (Y H) vs bs → Paired (Y H) (vs.drop n) (bs.drop n)
  | _, _, 0, h => h
  | _, _, _ + 1, .nil => .nil
  | _, _, n + 1, .cons _ b => paired_drop n b
theorem paired_take {H : Hp} : ∀ {vs : List V} {bs : List β} (n : Nat), Paired (Y H) vs bs → Paired (Y H) (vs.take n) (bs.take n)
  | _, _, 0, _ => .nil
  | _, _, _ + 1, .nil => .nil
  | _, _, n + 1, .cons a b => .cons a (paired_take n b)
theorem paired_app {H : Hp} : ∀ {vs ws : List V} {bs cs : List β}, Paired (Y H) vs bs → Paired (Y H) ws cs → Paired (Y H) (vs ++ ws) (bs ++ cs)
  | _, _, _, _, .nil, h => h
  | _, _, _, _, .cons a b, h => .cons a (paired_app b h)
theorem paired_cut {H : Hp} {vs : List V} {bs : List β} (h : Paired (Y H) vs bs) (lo hi : Option Int) : Paired (Y H) (cutV vs lo hi) (cutL bs lo hi) := by
  unfold cutV cutL
  rw [h.length]
  exact paired_take _ (paired_drop _ h)
def isNo : D → Bool
  | .none => true
  | _ => false
theorem Dt.isNo {v : V} {d : D} (h : Dt K H v d) : decide (v = V.non) = isNo d := by cases h <;> rfl
end
/-! ### what an expression's reading gives -/
section
variable (T : List (Addr × Str))
def Ev {β : Type} (Y : Hp → V → β → Prop) (te : TE) (σ : L2.St) (H : Hp) (b : β) : Prop := ∀ H1, Rp T H H1 → ∀ Q : VK, (∀ v H2, Rp T H1 H2 → Y H2 v b → Q v H2) → te σ H1 Q
def EvT (tt : TT) (σ : L2.St) (H : Hp) (b : Bool) : Prop := ∀ H1, Rp T H H1 → ∀ Q : Bool → Hp → Prop, (∀ H2, Rp T H1 H2 → Q b H2) → tt σ H1 Q
/-- arguments -/
def EvA (ta : TA) (σ : L2.St) (H : Hp) (P : List V → Hp → Prop) : Prop := ∀ H1, Rp T H H1 → ∀ Q : List V → Hp → Prop, (∀ vs H2, Rp T H1 H2 → P vs H2 → Q vs H2) → ta σ H1 Q
def EvO (to : TO) (σ : L2.St) (H : Hp) (o : Option Int) : Prop := ∀ H1, Rp T H H1 → ∀ Q : Option Int → Hp → Prop, (∀ H2, Rp T H1 H2 → Q o H2) → to σ H1 Q
end
section
variable {K : Fg} {T : List (Addr × Str)} {H H' : Hp} {σ : L2.St} {te ta tb tc : TE} {tt tu : TT} {β γ : Type} {Y : Hp → V → β → Prop} {Z : Hp → V → γ → Prop}
theorem Ev.mono {b : β} (r : Rp T H H') (h : Ev T Y te σ H b) : Ev T Y te σ H' b := fun H1 r1 Q q => h H1 (Rp.trans r r1) Q q
theorem EvT.mono {b : Bool} (r : Rp T H H') (h : EvT T tt σ H b) : EvT T tt σ H' b := fun H1 r1 Q q => h H1 (Rp.trans r r1) Q q
theorem Ev.imp {b : β} {c : γ} (h : Ev T Y te σ H b) (i : ∀ H1 v, Rp T H H1 → Y H1 v b → Z H1 v c) : Ev T Z te σ H c := fun H1 r1 Q q => h H1 r1 Q fun v H2 r2 y => q v H2 r2 (i H2 v (Rp.trans r1 r2) y)
theorem ev_eq {b c : β} (h : Ev T Y te σ H b) (e : b = c) : Ev T Y te σ H c := e ▸ h
theorem evT_eq {b c : Bool} (h : EvT T tt σ H b) (e : b = c) : EvT T tt σ H c := e ▸ h
theorem ev_var [m : Mono T Y] {i : Nat} {v : V} {b : β} (e : σ[i]? = some (some v)) (y : Y H v b) : Ev T Y (tVar i) σ H b := fun H1 r1 Q q => ⟨v, e, q v H1 (Rp.refl _) (m.mono r1 y)⟩
theorem ev_c {v : V} {b : β} (y : ∀ H, Y H v b) : Ev T Y (tC v) σ H b := fun H1 _ Q q => q v H1 (Rp.refl _) (y _)
theorem ev_int {i : Int} : Ev T yI (tC (.int i)) σ H i := ev_c fun _ => rfl
theorem ev_bl {i : Bool} : Ev T yB (tC (.bl i)) σ H i := ev_c fun _ => rfl
theorem ev_str {i : Str} : Ev T yS (tC (.str i)) σ H i := ev_c fun _ => rfl
theorem ev_intD {i : Int} : Ev T (yD K) (tC (.int i)) σ H (.num i) := ev_c fun _ => .int _
theorem ev_strD {i : Str} : Ev T (yD K) (tC (.str i)) σ H (.text i) := ev_c fun _ => .str _
theorem ev_nonD : Ev T (yD K) (tC .non) σ H .none := ev_c fun _ => .non
theorem ev_DI {i : Int} (h : Ev T (yD K) te σ H (.num i)) : Ev T yI te σ H i := h.imp fun _ _ _ y => y.num_inv
theorem ev_ID {i : Int} (h : Ev T yI te σ H i) : Ev T (yD K) te σ H (.num i) := h.imp fun _ _ _ y => by rw [show _ = V.int i from y]; exact .int _
theorem ev_DS {i : Str} (h : Ev T (yD K) te σ H (.text i)) : Ev T yS te σ H i := h.imp fun _ _ _ y => y.text_inv
theorem ev_SD {i : Str} (h : Ev T yS te σ H i) : Ev T (yD K) te σ H (.text i) := h.imp fun _ _ _ y => by rw [show _ = V.str i from y]; exact .str _
/-- a two-place operation -/
theorem ev_op {δ : Type} {W : Hp → V → δ → Prop} [my : Mono T Y] {r : R2} {b : β} {c : γ} {d : δ} (ha : Ev T Y ta σ H b) (hb : Ev T Z tb σ H c)
    (hr : ∀ H1 x y, Rp T H H1 → Y H1 x b → Z H1 y c → ∀ Q : VK, (∀ v H2, Rp T H1 H2 → W H2 v d → Q v H2) → r x y H1 Q) : Ev T W (tOp r ta tb) σ H d := fun H1 r1 Q q =>
  ha H1 r1 _ fun x H2 r2 y2 => hb H2 (Rp.trans r1 r2) _ fun y H3 r3 y3 => hr H3 x y (Rp.trans r1 (Rp.trans r2 r3)) (my.mono r3 y2) y3 Q fun v H4 r4 w => q v H4 (Rp.trans r2 (Rp.trans r3 r4)) w
theorem ev_II {g : Int → Int → V} {i j : Int} {d : β} (ha : Ev T yI ta σ H i) (hb : Ev T yI tb σ H j) (y : ∀ H, Y H (g i j) d) : Ev T Y (tOp (rI0 g) ta tb) σ H d :=
  ev_op ha hb fun H1 _ _ _ e1 e2 Q q => ⟨i, j, e1, e2, q _ H1 (Rp.refl _) (y _)⟩
theorem ev_IIc {C : Int → Int → Prop} {g : Int → Int → V} {i j : Int} {d : β} (ha : Ev T yI ta σ H i) (hb : Ev T yI tb σ H j) (hc : C i j) (y : ∀ H, Y H (g i j) d) : Ev T Y (tOp (rI C g) ta tb) σ H d :=
  ev_op ha hb fun H1 _ _ _ e1 e2 Q q => ⟨i, j, e1, e2, hc, q _ H1 (Rp.refl _) (y _)⟩
theorem ev_add {i j : Int} (ha : Ev T yI ta σ H i) (hb : Ev T yI tb σ H j) : Ev T yI (tOp (rI0 fun i j => .int (i + j)) ta tb) σ H (i + j) := ev_II ha hb fun _ => rfl
theorem ev_sub {i j : Int} (ha : Ev T yI ta σ H i) (hb : Ev T yI tb σ H j) : Ev T yI (tOp (rI0 fun i j => .int (i - j)) ta tb) σ H (i - j) := ev_II ha hb fun _ => rfl
theorem ev_cmp {g : Int → Int → Bool} {i j : Int} (ha : Ev T yI ta σ H i) (hb : Ev T yI tb σ H j) : Ev T yB (tOp (rI0 fun i j => .bl (g i j)) ta tb) σ H (g i j) := ev_II ha hb fun _ => rfl
/-- == of data -/
theorem ev_eqK {d e : D} (ha : Ev T (yD K) ta σ H d) (hb : Ev T (yD K) tb σ H e) (h1 : okD d = true) (h2 : okD e = true) : Ev T yB (tOp (rEqK K) ta tb) σ H (decide (d = e)) :=
  ev_op ha hb fun H1 _ _ _ e1 e2 Q q => ⟨d, e, e1, e2, h1, h2, q _ H1 (Rp.refl _) rfl⟩
theorem ev_neK {d e : D} (ha : Ev T (yD K) ta σ H d) (hb : Ev T (yD K) tb σ H e) (h1 : okD d = true) (h2 : okD e = true) : Ev T yB (tOp (rNeK K) ta tb) σ H (!decide (d = e)) :=
  ev_op ha hb fun H1 _ _ _ e1 e2 Q q => ⟨d, e, e1, e2, h1, h2, q _ H1 (Rp.refl _) rfl⟩
/-- scalars -/
theorem ev_eqS {x y : V} (ha : Ev T yV ta σ H x) (hb : Ev T yV tb σ H y) (h : scal x y = true) : Ev T yB (tOp rEq ta tb) σ H (decide (x = y)) :=
  ev_op ha hb fun H1 _ _ _ e1 e2 Q q => by
    rw [show _ = x from e1, show _ = y from e2]
    exact ⟨h, q _ H1 (Rp.refl _) rfl⟩
theorem ev_neS {x y : V} (ha : Ev T yV ta σ H x) (hb : Ev T yV tb σ H y) (h : scal x y = true) : Ev T yB (tOp rNe ta tb) σ H (!decide (x = y)) :=
  ev_op ha hb fun H1 _ _ _ e1 e2 Q q => by
    rw [show _ = x from e1, show _ = y from e2]
    exact ⟨h, q _ H1 (Rp.refl _) rfl⟩
theorem ev_IV {i : Int} (h : Ev T yI te σ H i) : Ev T yV te σ H (.int i) := h
theorem ev_SV {i : Str} (h : Ev T yS te σ H i) : Ev T yV te σ H (.str i) := h
/-- is None, is not None -/
theorem ev_isN {d : D} (h : Ev T (yD K) te σ H d) : Ev T yB (tIsN te) σ H (isNo d) := fun H1 r1 Q q => h H1 r1 _ fun v H2 r2 y => q _ H2 r2 (by rw [Dt.isNo y]; rfl)
theorem ev_notN {d : D} (h : Ev T (yD K) te σ H d) : Ev T yB (tNotN te) σ H (!isNo d) := fun H1 r1 Q q => h H1 r1 _ fun v H2 r2 y => q _ H2 r2 (by rw [Dt.isNo y]; rfl)
/-- items -/
theorem ev_DT {ds : List D} (h : Ev T (yD K) te σ H (.tup ds)) : Ev T (yT K (yD K)) te σ H ds := h.imp fun _ _ _ y => by
  obtain ⟨a, xs, e, s, l⟩ := y.tup_inv
  exact ⟨a, xs, e, s, dtl_paired l⟩
theorem ev_TD {ds : List D} (h : Ev T (yT K (yD K)) te σ H ds) : Ev T (yD K) te σ H (.tup ds) := h.imp fun _ _ _ y => by
  obtain ⟨a, xs, e, s, l⟩ := y
  subst e
  exact .tup s (paired_dtl l)
theorem ev_ixT [my : Mono T Y] {bs : List β} {i : Int} {b : β} (ha : Ev T (yT K Y) ta σ H bs) (hb : Ev T yI tb σ H i) (e : atI bs i = some b) : Ev T Y (tOp (rIxT K) ta tb) σ H b :=
  ev_op ha hb fun H1 x y _ ⟨a, vs, e1, s, l⟩ e2 Q q => by
    obtain ⟨v, h1, h2⟩ := at_of_paired l e
    exact ⟨a, vs, i, v, e1, e2, s, h1, q v H1 (Rp.refl _) h2⟩
theorem ev_ixD {ds : List D} {i : Int} {d : D} (ha : Ev T (yD K) ta σ H (.tup ds)) (hb : Ev T yI tb σ H i) (e : atI ds i = some d) : Ev T (yD K) (tOp (rIxT K) ta tb) σ H d := ev_ixT (ev_DT ha) hb e
theorem ev_ixL [my : Mono T Y] {bs : List β} {i : Int} {b : β} (ha : Ev T (yL Y) ta σ H bs) (hb : Ev T yI tb σ H i) (e : atI bs i = some b) : Ev T Y (tOp (rIxL K) ta tb) σ H b :=
  ev_op ha hb fun H1 x y _ ⟨a, vs, e1, s, l⟩ e2 Q q => by
    obtain ⟨v, h1, h2⟩ := at_of_paired l e
    exact ⟨a, vs, i, v, e1, e2, SqL.of s, h1, q v H1 (Rp.refl _) h2⟩
/-- arguments, displays -/
theorem ea_nil : EvA T tNil σ H fun vs _ => vs = [] := fun H1 _ Q q => q [] H1 (Rp.refl _) rfl
theorem ea_cons [my : Mono T Y] {t : TA} {P : List V → Hp → Prop} {b : β} (h : Ev T Y te σ H b) (ht : EvA T t σ H P) : EvA T (tCons te t) σ H fun vs H' => ∃ v ws, vs = v :: ws ∧ Y H' v b ∧ P ws H' := fun H1 r1 Q q =>
  h H1 r1 _ fun v H2 r2 y => ht H2 (Rp.trans r1 r2) _ fun ws H3 r3 p => q _ H3 (Rp.trans r2 r3) ⟨v, ws, rfl, my.mono r3 y, p⟩
theorem ea_one {t : TA} {b : β} [my : Mono T Y] (h : Ev T Y te σ H b) : EvA T (tCons te tNil) σ H fun vs H' => ∃ v, vs = [v] ∧ Y H' v b := fun H1 r1 Q q =>
  h H1 r1 _ fun v H2 r2 y => q _ H2 r2 ⟨v, rfl, y⟩
/-- all data -/
def EvDs (T : List (Addr × Str)) (Y : Hp → V → β → Prop) (t : TA) (σ : L2.St) (H : Hp) (ds : List β) : Prop := EvA T t σ H fun vs H' => Paired (Y H') vs ds
theorem eds_nil : EvDs T Y tNil σ H ([] : List β) := fun H1 _ Q q => q [] H1 (Rp.refl _) .nil
theorem eds_cons [my : Mono T Y] {t : TA} {b : β} {bs : List β} (h : Ev T Y te σ H b) (ht : EvDs T Y t σ H bs) : EvDs T Y (tCons te t) σ H (b :: bs) := fun H1 r1 Q q =>
  h H1 r1 _ fun v H2 r2 y => ht H2 (Rp.trans r1 r2) _ fun ws H3 r3 p => q _ H3 (Rp.trans r2 r3) (.cons (my.mono r3 y) p)
theorem ev_tupT [my : Mono T Y] {t : TA} {ds : List β} (h : EvDs T Y t σ H ds) (hl : ds.length ≤ sizeLine) : Ev T (yT K Y) (tTup t) σ H ds := fun H1 r1 Q q =>
  h H1 r1 _ fun vs H2 r2 p => ⟨by rw [p.length]; exact hl, fun a ha => q (.ref a) (upd H2 a (.tup vs)) (Rp.trans r2 (Rp.new ha)) ⟨a, vs, rfl, SqT.of upd_same, paired_mono (Rp.new (T := T) ha) p⟩⟩
theorem ev_tup {t : TA} {ds : List D} (h : EvDs T (yD K) t σ H ds) (hl : ds.length ≤ sizeLine) : Ev T (yD K) (tTup t) σ H (.tup ds) := ev_TD (ev_tupT h hl)
theorem ev_pair [my : Mono T Y] [mz : Mono T Z] {b : β} {c : γ} (ha : Ev T Y ta σ H b) (hb : Ev T Z tb σ H c) : Ev T (yP K Y Z) (tTup (tCons ta (tCons tb tNil))) σ H (b, c) := fun H1 r1 Q q =>
  ha H1 r1 _ fun v H2 r2 y2 => hb H2 (Rp.trans r1 r2) _ fun w H3 r3 y3 => ⟨by show 2 ≤ sizeLine; decide, fun a ha => q (.ref a) (upd H3 a (.tup [v, w])) (Rp.trans r2 (Rp.trans r3 (Rp.new ha))) ⟨a, v, w, rfl, SqT.of upd_same, my.mono (Rp.trans r3 (Rp.new ha)) y2, mz.mono (Rp.new (T := T) ha) y3⟩⟩
theorem ev_lst [my : Mono T Y] {t : TA} {ds : List β} (h : EvDs T Y t σ H ds) (hl : ds.length ≤ sizeLine) : Ev T (yL Y) (tLst t) σ H ds := fun H1 r1 Q q =>
  h H1 r1 _ fun vs H2 r2 p => ⟨by rw [p.length]; exact hl, fun a ha => q (.ref a) (upd H2 a (.lst vs)) (Rp.trans r2 (Rp.new ha)) ⟨a, vs, rfl, upd_same, paired_mono (Rp.new (T := T) ha) p⟩⟩
/-- tests -/
theorem et_test {b : Bool} (h : Ev T yB te σ H b) : EvT T (tTest te) σ H b := fun H1 r1 Q q => h H1 r1 _ fun v H2 r2 y => ⟨b, y, q H2 r2⟩
theorem et_B {b : Bool} (h : Ev T yB te σ H b) : EvT T (tB te) σ H b := fun H1 r1 Q q => h H1 r1 _ fun v H2 r2 y => ⟨b, y, q H2 r2⟩
theorem et_and {a b : Bool} (h1 : EvT T tt σ H a) (h2 : a = true → EvT T tu σ H b) : EvT T (tAnd tt tu) σ H (a && b) := fun H1 r1 Q q => h1 H1 r1 _ fun H2 r2 => by
  cases a with
  | true => exact iteT (h2 rfl H2 (Rp.trans r1 r2) Q fun H3 r3 => q H3 (Rp.trans r2 r3))
  | false => exact iteF (q H2 r2)
theorem et_or {a b : Bool} (h1 : EvT T tt σ H a) (h2 : a = false → EvT T tu σ H b) : EvT T (tOr tt tu) σ H (a || b) := fun H1 r1 Q q => h1 H1 r1 _ fun H2 r2 => by
  cases a with
  | true => exact iteT (q H2 r2)
  | false => exact iteF (h2 rfl H2 (Rp.trans r1 r2) Q fun H3 r3 => q H3 (Rp.trans r2 r3))
theorem et_not {a : Bool} (h1 : EvT T tt σ H a) : EvT T (tNot tt) σ H (!a) := fun H1 r1 Q q => h1 H1 r1 _ fun H2 r2 => q H2 r2
theorem ev_andV {a b : Bool} (h1 : Ev T yB ta σ H a) (h2 : a = true → Ev T yB tb σ H b) : Ev T yB (tAndV ta tb) σ H (a && b) := fun H1 r1 Q q => h1 H1 r1 _ fun v H2 r2 y => ⟨a, y, by
  cases a with
  | true => exact iteT (h2 rfl H2 (Rp.trans r1 r2) Q fun w H3 r3 z => q w H3 (Rp.trans r2 r3) z)
  | false => exact iteF (q _ H2 r2 rfl)⟩
theorem ev_orV {a b : Bool} (h1 : Ev T yB ta σ H a) (h2 : a = false → Ev T yB tb σ H b) : Ev T yB (tOrV ta tb) σ H (a || b) := fun H1 r1 Q q => h1 H1 r1 _ fun v H2 r2 y => ⟨a, y, by
  cases a with
  | true => exact iteT (q _ H2 r2 rfl)
  | false => exact iteF (h2 rfl H2 (Rp.trans r1 r2) Q fun w H3 r3 z => q w H3 (Rp.trans r2 r3) z)⟩
theorem ev_notV {a : Bool} (h1 : Ev T yB ta σ H a) : Ev T yB (tNotV ta) σ H (!a) := fun H1 r1 Q q => h1 H1 r1 _ fun v H2 r2 y => ⟨a, y, q _ H2 r2 rfl⟩
theorem ev_if {b : Bool} {d e : β} (h : EvT T tt σ H b) (h1 : b = true → Ev T Y ta σ H d) (h2 : b = false → Ev T Y tb σ H e) : Ev T Y (tIf tt ta tb) σ H (if b = true then d else e) := fun H1 r1 Q q => h H1 r1 _ fun H2 r2 => by
  cases b with
  | true => exact iteT (h1 rfl H2 (Rp.trans r1 r2) Q fun w H3 r3 z => q w H3 (Rp.trans r2 r3) z)
  | false => exact iteF (h2 rfl H2 (Rp.trans r1 r2) Q fun w H3 r3 z => q w H3 (Rp.trans r2 r3) z)
/-- slices -/
theorem eo_none : EvO T tNoPart σ H none := fun H1 _ _ q => q H1 (Rp.refl _)
theorem eo_some {i : Int} (h : Ev T yI te σ H i) : EvO T (tPart te) σ H (some i) := fun H1 r1 Q q => h H1 r1 _ fun v H2 r2 y => ⟨i, y, q H2 r2⟩
theorem ev_slL [my : Mono T Y] {tl th : TO} {bs : List β} {lo hi : Option Int} (h : Ev T (yL Y) te σ H bs) (h1 : EvO T tl σ H lo) (h2 : EvO T th σ H hi) : Ev T (yL Y) (tSl (rSlL K) te tl th) σ H (cutL bs lo hi) := fun H1 r1 Q q =>
  h H1 r1 _ fun v H2 r2 y => h1 H2 (Rp.trans r1 r2) _ fun H3 r3 => h2 H3 (Rp.trans r1 (Rp.trans r2 r3)) _ fun H4 r4 => by
    obtain ⟨a, vs, e, ha, l⟩ := y
    exact ⟨a, vs, e, SqL.of (Rp.lst (Rp.trans r3 r4) ha), fun p hp => q _ _ (Rp.trans r2 (Rp.trans r3 (Rp.trans r4 (Rp.new hp)))) ⟨p, _, rfl, upd_same, paired_cut (paired_mono (Rp.trans r3 (Rp.trans r4 (Rp.new (T := T) hp))) l) lo hi⟩⟩
/-- + of lists -/
theorem ev_cat [my : Mono T Y] {bs cs : List β} (ha : Ev T (yL Y) ta σ H bs) (hb : Ev T (yL Y) tb σ H cs) (hl : bs.length + cs.length ≤ sizeLine) : Ev T (yL Y) (tOp rCat ta tb) σ H (bs ++ cs) :=
  ev_op ha hb fun H1 x y _ ⟨a, vs, e1, s1, l1⟩ ⟨b, ws, e2, s2, l2⟩ Q q =>
    ⟨a, b, vs, ws, e1, e2, s1, s2, by rw [l1.length, l2.length]; exact hl, fun p hp => q _ _ (Rp.new hp) ⟨p, _, rfl, upd_same, paired_mono (Rp.new (T := T) hp) (paired_app l1 l2)⟩⟩
/-- fields -/
theorem ev_fld [m : Mono T Y] {p C dx : Addr} {fs : List (Str × V)} {f : Str} {v : V} {b : β} (h : Ev T yV te σ H (.ref p)) (hp : H p = some (.ins C dx fs)) (c : Cls K C) (n : NoAttr K C f) (l : fs.lookup f = some v) (y : Y H v b) : Ev T Y (tFld K te f) σ H b := fun H1 r1 Q q =>
  h H1 r1 _ fun x H2 r2 e => ⟨p, C, dx, fs, v, e, Rp.ins (Rp.trans r1 r2) hp, c, n, l, q v H2 r2 (m.mono (Rp.trans r1 r2) y)⟩
/-- calls -/
theorem ev_call {sp : Sp} {E : XK} {t : TA} {P : List V → Hp → Prop} {b : β} (h : EvA T t σ H P) (hs : ∀ H1 vs, Rp T H H1 → P vs H1 → ∀ Q : VK, (∀ v H2, Rp T H1 H2 → Y H2 v b → Q v H2) → sp (vs ++ []) H1 Q E) : Ev T Y (tCall sp [] E t) σ H b := fun H1 r1 Q q =>
  h H1 r1 _ fun vs H2 r2 p => hs H2 vs (Rp.trans r1 r2) p Q fun v H3 r3 y => q v H3 (Rp.trans r2 r3) y
theorem ev_cb {r : List V → Hp → VK → Prop} {t : TA} {P : List V → Hp → Prop} {b : β} (h : EvA T t σ H P) (hs : ∀ H1 vs, Rp T H H1 → P vs H1 → ∀ Q : VK, (∀ v H2, Rp T H1 H2 → Y H2 v b → Q v H2) → r vs H1 Q) : Ev T Y (tCB r t) σ H b := fun H1 r1 Q q =>
  h H1 r1 _ fun vs H2 r2 p => hs H2 vs (Rp.trans r1 r2) p Q fun v H3 r3 y => q v H3 (Rp.trans r2 r3) y
/-! statements -/
variable {D0 : Ends} {t1 t2 : TS}
theorem s_set {i : Nat} {b : β} (h : Ev T Y te σ H b) (k : ∀ v H1, Rp T H H1 → Y H1 v b → D0.nx (σ.set i (some v)) H1) : tAsg te (gName i) D0 σ H := h H (Rp.refl _) _ fun v H1 r1 y => k v H1 r1 y
theorem s_ret {b : β} (h : Ev T Y te σ H b) (k : ∀ v H1, Rp T H H1 → Y H1 v b → D0.rt v H1) : tRet te D0 σ H := h H (Rp.refl _) _ fun v H1 r1 y => k v H1 r1 y
theorem s_if {b : Bool} (h : EvT T tt σ H b) (h1 : b = true → ∀ H1, Rp T H H1 → t1 D0 σ H1) (h2 : b = false → ∀ H1, Rp T H H1 → t2 D0 σ H1) : tIfS tt t1 t2 D0 σ H := h H (Rp.refl _) _ fun H1 r1 => by
  cases b with
  | true => exact iteT (h1 rfl H1 r1)
  | false => exact iteF (h2 rfl H1 r1)
theorem s_drop {b : β} (h : Ev T Y te σ H b) (k : ∀ H1, Rp T H H1 → D0.nx σ H1) : tDrop te D0 σ H := h H (Rp.refl _) _ fun v H1 r1 y => k H1 r1
end
end K20
namespace K20
open PySem PySem.Spec PyProof.Rows L2
section
variable (T : List (Addr × Str))
/-- what is walked: these, in turn -/
def EvI {β : Type} (Y : Hp → V → β → Prop) (wi : TI) (σ : L2.St) (H : Hp) (bs : List β) : Prop :=
  ∀ H1, Rp T H H1 → ∀ Rk : It → Hp → Prop, (∀ J H2, Rp T H1 H2 → Walk J bs.length (Rp T H2) (fun i H x H' => Rp T H H' ∧ ∃ b, bs[i]? = some b ∧ Y H' x b) → Rk J H2) → wi σ H1 Rk
end
section
variable {K : Fg} {T : List (Addr × Str)} {H H' : Hp} {σ : L2.St} {te ta tb tl : TE} {tt : TT} {wi : TI} {β γ : Type} {Y : Hp → V → β → Prop} {Z : Hp → V → γ → Prop}
theorem paired_get {vs : List V} {bs : List β} (h : Paired (Y H) vs bs) {i : Nat} {v : V} (e : vs[i]? = some v) : ∃ b, bs[i]? = some b ∧ Y H v b := by
  induction h generalizing i with
  | nil => simp at e
  | cons a t ih =>
    cases i with
    | zero => cases e; exact ⟨_, rfl, a⟩
    | succ j =>
      obtain ⟨b, h1, h2⟩ := ih (i := j) (by simpa using e)
      exact ⟨b, by simpa using h1, h2⟩
theorem evi_list [my : Mono T Y] {bs : List β} (h : Ev T (yL Y) tl σ H bs) : EvI T Y (iList K tl) σ H bs := fun H1 r1 Rk k => h H1 r1 _ fun v H2 r2 ⟨a, vs, e, ha, l⟩ =>
  ⟨a, e, ⟨vs, SqL.of ha⟩, k _ H2 r2 (by
    rw [← l.length]
    exact (walk_list (K := K) (a := a) (xs := vs)).mono (fun H3 r3 => SqL.of (r3.lst ha)) fun i H3 x H4 hi r3 ⟨e1, e2⟩ => by
      subst e1
      exact ⟨Rp.refl _, paired_get (paired_mono r3 l) e2⟩)⟩
theorem evi_tup [my : Mono T Y] {bs : List β} (h : Ev T (yT K Y) tl σ H bs) : EvI T Y (iTup K tl) σ H bs := fun H1 r1 Rk k => h H1 r1 _ fun v H2 r2 ⟨a, vs, e, ha, l⟩ =>
  ⟨a, e, ⟨vs, ha⟩, k _ H2 r2 (by
    rw [← l.length]
    exact (walk_tup (K := K) (a := a) (xs := vs)).mono (fun H3 r3 => r3.tup ha) fun i H3 x H4 hi r3 ⟨e1, e2⟩ => by
      subst e1
      exact ⟨Rp.refl _, paired_get (paired_mono r3 l) e2⟩)⟩
theorem evi_range {t : TA} {n : Int} (h : EvA T t σ H fun vs _ => vs = [.int n]) (h1 : -(2 ^ 62) ≤ n) (h2 : n < 2 ^ 62) : EvI T yI (iRng1 t) σ H ((List.range n.toNat).map fun (i : Nat) => (i : Int)) := fun H1 r1 Rk k => h H1 r1 _ fun vs H2 r2 e =>
  ⟨n, e, h1, h2, k _ H2 r2 (by
    rw [List.length_map, List.length_range]
    exact (walk_range (lo := 0) (n := n.toNat)).mono (fun _ _ => trivial) fun i H3 x H4 hi r3 ⟨e1, e2⟩ => by
      subst e1
      exact ⟨Rp.refl _, (i : Int), by simp [hi], by rw [e2]; show V.int ((0 : Int) + (i : Int)) = V.int (i : Int); rw [Int.zero_add]⟩)⟩
theorem evi_range2 {t : TA} {m n : Int} (h : EvA T t σ H fun vs _ => vs = [.int m, .int n]) (h1 : -(2 ^ 62) ≤ m ∧ m < 2 ^ 62 ∧ -(2 ^ 62) ≤ n ∧ n < 2 ^ 62) : EvI T yI (iRng2 t) σ H ((List.range (n - m).toNat).map fun (i : Nat) => m + (i : Int)) := fun H1 r1 Rk k => h H1 r1 _ fun vs H2 r2 e =>
  ⟨m, n, e, h1, k _ H2 r2 (by
    rw [List.length_map, List.length_range]
    exact (walk_range (lo := m) (n := (n - m).toNat)).mono (fun _ _ => trivial) fun i H3 x H4 hi r3 ⟨e1, e2⟩ => by
      subst e1
      exact ⟨Rp.refl _, m + (i : Int), by simp [hi], e2⟩)⟩
theorem ea_int {i : Int} (h : Ev T yI te σ H i) : EvA T (tCons te tNil) σ H fun vs _ => vs = [.int i] := fun H1 r1 Q q => h H1 r1 _ fun v H2 r2 y => q _ H2 r2 (by rw [show v = V.int i from y])
theorem ea_int2 {i j : Int} (h : Ev T yI ta σ H i) (h2 : Ev T yI tb σ H j) : EvA T (tCons ta (tCons tb tNil)) σ H fun vs _ => vs = [.int i, .int j] := fun H1 r1 Q q => h H1 r1 _ fun v H2 r2 y => h2 H2 (r1.trans r2) _ fun w H3 r3 z => q _ H3 (r2.trans r3) (by
  rw [show v = V.int i from y, show w = V.int j from z])
/-- one turn: the items taken grow by one -/
theorem take_grow {α : Type} {bs : List α} {i : Nat} {b : α} (e : bs[i]? = some b) : bs.take (i + 1) = bs.take i ++ [b] := by
  rw [List.take_add_one, e]
  rfl
theorem paired_snoc {vs : List V} {bs : List β} {v : V} {b : β} (h : Paired (Y H) vs bs) (y : Y H v b) : Paired (Y H) (vs ++ [v]) (bs ++ [b]) := paired_app h (.cons y .nil)
/-- [te for j in wi if tt] -/
theorem ev_lc {bs : List β} {j : Nat} {ws : List Nat} [iz : Imm Z] (p : β → Bool) (f : β → γ) (hi : EvI T Y wi σ H bs)
    (ht : ∀ b ∈ bs, ∀ x H1, Rp T H H1 → Y H1 x b → EvT T tt ((wipe σ ws).set j (some x)) H1 (p b)) (he : ∀ b ∈ bs, p b = true → ∀ x H1, Rp T H H1 → Y H1 x b → Ev T Z te ((wipe σ ws).set j (some x)) H1 (f b))
    (hw : ∀ x, wipe ((wipe σ ws).set j (some x)) ws = wipe σ ws) (hl : bs.length ≤ sizeLine) : Ev T (yL Z) (tLc wi (gName j) tt te ws) σ H ((bs.filter p).map f) := fun H1 r1 Q q =>
  hi H1 r1 _ fun J H2 r2 W A hA => by
    refine lc_it W (fun i H3 => Rp T H2 H3 ∧ ∃ acc, H3 A = some (.lst acc) ∧ acc.length ≤ i ∧ Paired (Z H3) acc (((bs.take i).filter p).map f)) ⟨Rp.new hA, [], upd_same, Nat.zero_le _, by rw [List.take_zero]; exact .nil⟩ (fun _ _ _ h => h.1) (fun i x H3 H4 hi ⟨r3, acc, e3, l3, p3⟩ ⟨r4, b, eb, y⟩ => ?_) fun H3 ⟨r3, acc, e3, _, p3⟩ => ?_
    · have hb := List.mem_of_getElem? eb
      have rr : Rp T H H4 := r1.trans (r2.trans (r3.trans r4))
      refine ⟨hw x, ht b hb x H4 rr y H4 (Rp.refl _) _ fun H5 r5 => ?_⟩
      rw [take_grow eb, List.filter_append, List.map_append]
      cases hp : p b with
      | false =>
        refine iteF ⟨r3.trans (r4.trans r5), acc, (r4.trans r5).lst e3, Nat.le_succ_of_le l3, ?_⟩
        rw [List.filter_cons_of_neg (by rw [hp]; exact Bool.false_ne_true), List.filter_nil, List.map_nil, List.append_nil]
        exact paired_imm (r4.trans r5).tk p3
      | true =>
        refine iteT (he b hb hp x H4 rr y H5 r5 _ fun z H6 r6 yz => ?_)
        have e6 := (r4.trans (r5.trans r6)).lst e3
        refine ⟨acc, e6, Nat.lt_of_le_of_lt l3 (Nat.lt_of_lt_of_le hi hl), (r3.trans (r4.trans (r5.trans r6))).chgL hA e6, _, upd_same, by rw [List.length_append]; exact Nat.succ_le_succ l3, ?_⟩
        have tk : Tk H6 (upd H6 A (.lst (acc ++ [z]))) := Tk.updL e6
        rw [List.filter_cons_of_pos hp, List.filter_nil, List.map_cons, List.map_nil]
        exact paired_snoc (paired_imm tk (paired_imm (r4.trans (r5.trans r6)).tk p3)) (iz.imm tk yz)
    · rw [List.take_length] at p3
      exact q _ H3 (r2.trans r3) ⟨A, acc, rfl, e3, p3⟩
theorem et_yes : EvT T tYes σ H true := fun H1 _ Q q => q H1 (Rp.refl _)
/-- [te for j in wi] -/
theorem ev_lm {bs : List β} {j : Nat} {ws : List Nat} [iz : Imm Z] (f : β → γ) (hi : EvI T Y wi σ H bs) (he : ∀ b ∈ bs, ∀ x H1, Rp T H H1 → Y H1 x b → Ev T Z te ((wipe σ ws).set j (some x)) H1 (f b))
    (hw : ∀ x, wipe ((wipe σ ws).set j (some x)) ws = wipe σ ws) (hl : bs.length ≤ sizeLine) : Ev T (yL Z) (tLc wi (gName j) tYes te ws) σ H (bs.map f) := by
  have h := ev_lc (p := fun _ => true) f hi (fun _ _ _ _ _ _ => et_yes) (fun b hb _ => he b hb) hw hl
  rw [List.filter_eq_self.mpr (fun _ _ => rfl)] at h
  exact h
/-! ### built-ins -/
theorem bl_map : ∀ {vs : List V} {bs : List Bool}, Paired (yB H) vs bs → vs = bs.map V.bl
  | _, _, .nil => rfl
  | _, _, .cons a b => by rw [show _ = V.bl _ from a, bl_map b]; rfl
theorem int_map : ∀ {vs : List V} {bs : List Int}, Paired (yI H) vs bs → vs = bs.map V.int
  | _, _, .nil => rfl
  | _, _, .cons a b => by rw [show _ = V.int _ from a, int_map b]; rfl
theorem ev_all {bs : List Bool} (h : Ev T (yL yB) te σ H bs) : Ev T yB (tCB (rAll K) (tCons te tNil)) σ H (bs.all id) := fun H1 r1 Q q => h H1 r1 _ fun v H2 r2 ⟨a, vs, e, ha, l⟩ =>
  ⟨a, bs, by rw [e], SqL.of (by rw [ha, bl_map l]), q _ H2 r2 rfl⟩
theorem ev_any {bs : List Bool} (h : Ev T (yL yB) te σ H bs) : Ev T yB (tCB (rAny K) (tCons te tNil)) σ H (bs.any id) := fun H1 r1 Q q => h H1 r1 _ fun v H2 r2 ⟨a, vs, e, ha, l⟩ =>
  ⟨a, bs, by rw [e], SqL.of (by rw [ha, bl_map l]), q _ H2 r2 rfl⟩
/-- len of a list, a tuple -/
def rLenS (K : Fg) : List V → Hp → VK → Prop := fun xs H Q => ∃ p ys, xs = [.ref p] ∧ (SqL K H p ys ∨ SqT K H p ys) ∧ Q (.int ys.length) H
theorem ev_lenL {bs : List β} (h : Ev T (yL Y) te σ H bs) : Ev T yI (tCB (rLenS K) (tCons te tNil)) σ H (bs.length : Int) := fun H1 r1 Q q => h H1 r1 _ fun v H2 r2 ⟨a, vs, e, ha, l⟩ =>
  ⟨a, vs, by rw [e], .inl (SqL.of ha), q _ H2 r2 (by rw [l.length]; rfl)⟩
theorem ev_lenT {bs : List β} (h : Ev T (yT K Y) te σ H bs) : Ev T yI (tCB (rLenS K) (tCons te tNil)) σ H (bs.length : Int) := fun H1 r1 Q q => h H1 r1 _ fun v H2 r2 ⟨a, vs, e, ha, l⟩ =>
  ⟨a, vs, by rw [e], .inr ha, q _ H2 r2 (by rw [l.length]; rfl)⟩
/-- tuple(a list), list(a list, a tuple) -/
def rTupS (K : Fg) : List V → Hp → VK → Prop := fun xs H Q => ∃ p ys, xs = [.ref p] ∧ ((SqL K H p ys ∧ ∀ l, H l = none → Q (.ref l) (upd H l (.tup ys))) ∨ (SqT K H p ys ∧ Q (.ref p) H))
theorem ev_tuple [my : Mono T Y] {bs : List β} (h : Ev T (yL Y) te σ H bs) : Ev T (yT K Y) (tCB (rTupS K) (tCons te tNil)) σ H bs := fun H1 r1 Q q => h H1 r1 _ fun v H2 r2 ⟨a, vs, e, ha, l⟩ =>
  ⟨a, vs, by rw [e], .inl ⟨SqL.of ha, fun p hp => q _ _ (r2.trans (Rp.new hp)) ⟨p, vs, rfl, SqT.of upd_same, paired_mono (Rp.new (T := T) hp) l⟩⟩⟩
def rListS (K : Fg) : List V → Hp → VK → Prop := fun xs H Q => ∃ p ys, xs = [.ref p] ∧ (SqL K H p ys ∨ SqT K H p ys) ∧ ∀ l, H l = none → Q (.ref l) (upd H l (.lst ys))
theorem ev_listL [my : Mono T Y] {bs : List β} (h : Ev T (yL Y) te σ H bs) : Ev T (yL Y) (tCB (rListS K) (tCons te tNil)) σ H bs := fun H1 r1 Q q => h H1 r1 _ fun v H2 r2 ⟨a, vs, e, ha, l⟩ =>
  ⟨a, vs, by rw [e], .inl (SqL.of ha), fun p hp => q _ _ (r2.trans (Rp.new hp)) ⟨p, vs, rfl, upd_same, paired_mono (Rp.new (T := T) hp) l⟩⟩
theorem ev_listT [my : Mono T Y] {bs : List β} (h : Ev T (yT K Y) te σ H bs) : Ev T (yL Y) (tCB (rListS K) (tCons te tNil)) σ H bs := fun H1 r1 Q q => h H1 r1 _ fun v H2 r2 ⟨a, vs, e, ha, l⟩ =>
  ⟨a, vs, by rw [e], .inr ha, fun p hp => q _ _ (r2.trans (Rp.new hp)) ⟨p, vs, rfl, upd_same, paired_mono (Rp.new (T := T) hp) l⟩⟩
theorem ev_max2 {i j : Int} {r : List V → Hp → VK → Prop} (hr : r = fun xs H Q => ∃ i j, xs = [.int i, .int j] ∧ Q (.int (if j > i then j else i)) H) (ha : Ev T yI ta σ H i) (hb : Ev T yI tb σ H j) : Ev T yI (tCB r (tCons ta (tCons tb tNil))) σ H (if j > i then j else i) := by
  subst hr
  exact fun H1 r1 Q q => ha H1 r1 _ fun v H2 r2 y => hb H2 (r1.trans r2) _ fun w H3 r3 z => ⟨i, j, by rw [show v = V.int i from y, show w = V.int j from z], q _ H3 (r2.trans r3) rfl⟩
theorem ev_min2 {i j : Int} {r : List V → Hp → VK → Prop} (hr : r = fun xs H Q => ∃ i j, xs = [.int i, .int j] ∧ Q (.int (if j < i then j else i)) H) (ha : Ev T yI ta σ H i) (hb : Ev T yI tb σ H j) : Ev T yI (tCB r (tCons ta (tCons tb tNil))) σ H (if j < i then j else i) := by
  subst hr
  exact fun H1 r1 Q q => ha H1 r1 _ fun v H2 r2 y => hb H2 (r1.trans r2) _ fun w H3 r3 z => ⟨i, j, by rw [show v = V.int i from y, show w = V.int j from z], q _ H3 (r2.trans r3) rfl⟩
/-- t + u, tuples of data -/
theorem ev_catT {ds es : List D} (ha : Ev T (yD K) ta σ H (.tup ds)) (hb : Ev T (yD K) tb σ H (.tup es)) (h1 : ds ≠ []) (h2 : es ≠ []) (hl : ds.length + es.length ≤ sizeLine) : Ev T (yD K) (tOp (rCatT K) ta tb) σ H (.tup (ds ++ es)) :=
  ev_op ha hb fun H1 x y _ d1 d2 Q q => by
    obtain ⟨a, xs, e1, s1, l1⟩ := d1.tup_inv
    obtain ⟨b, ys, e2, s2, l2⟩ := d2.tup_inv
    subst e1 e2
    refine ⟨a, b, xs, ys, rfl, rfl, s1, s2, fun e => h1 ?_, by rw [l1.length, l2.length]; exact hl, ?_⟩
    · subst e
      cases l1
      rfl
    · refine ⟨fun e => absurd ?_ h2, fun _ p hp => q _ _ (Rp.new hp) (.tup (SqT.of upd_same) (DtL.mono (fun _ _ s => (Rp.new (T := T) hp).tup s) _ (l1.app l2)))⟩
      subst e
      cases l2
      rfl
end
end K20
namespace K20
open PySem PySem.Spec PyProof.Rows L2

/-! ### dicts whose keys are data: by their very object -/
def RawO (d : Addr) (o : Obj) : HO := .ext fun h => h.get? d = some o
def heapOf (d : Addr) (o : Obj) : Heap := { objs := Array.replicate (d + 1) o, life := default }
theorem heapOf_get {d : Addr} {o : Obj} {es ep} (h : o.data = .dict es ep) : (heapOf d o).get? d = some o := by
  unfold Heap.get?
  have e : (heapOf d o).objs[d]? = some o := by
    show (Array.replicate (d + 1) o)[d]? = some o
    simp
  rw [e]
  obtain ⟨c, dd, dt, sl⟩ := o
  cases h
  rfl
theorem RawO.noCode {d : Addr} {o : Obj} {es ep} (h : o.data = .dict es ep) (q : Str) : RawO d o ≠ LamX.CodeO d q := by
  intro e
  unfold RawO LamX.CodeO at e
  injection e with e
  have z := congrFun e (heapOf d o)
  rw [heapOf_get h] at z
  obtain ⟨oc, vs, t, e1, e2, _⟩ := z.mp rfl
  cases e1
  rw [h] at e2
  cases e2
theorem RawO.noTbl {d : Addr} {o : Obj} (ps : Array Value) : RawO d o ≠ .tbl ps := fun z => by unfold RawO at z; cases z
theorem RawO.noTup {d : Addr} {o : Obj} (ps : List V) : RawO d o ≠ .tup ps := fun z => by unfold RawO at z; cases z
theorem RawO.noFrz {d : Addr} {o ob : Obj} (u : HO) : RawO d o ≠ .frz ob u := fun z => by unfold RawO at z; cases z
theorem RawO.ok {P : Program} {w : World} {H : Hp} {h : Heap} {d : Addr} {o : Obj} (e : h.get? d = some o) : ObjOk P w H h d (RawO d o) := ⟨e, ⟨o, e⟩, fun _ _ a st => st _ a⟩
abbrev NK (P : Program) (w : World) := nestedKind P w
/-- at d stands a dict of these: keys that are data, values -/
structure DictAt (K : Fg) (P : Program) (w : World) (H : Hp) (d : Addr) (kvs : List (D × V)) : Prop where
  ex : ∃ (o : Obj) (es : Array DictEntry) (ep : Nat) (xs : List (D × Addr × Value)), H d = some (RawO d o) ∧ o.ExactDict ∧ o.data = .dict es ep ∧ es.toList = xs.map (entryOfKey (NK P w)) ∧
    Paired (fun (p : D × V) (q : D × Addr × Value) => p.1 = q.1 ∧ Dt K H (.ref q.2.1) p.1 ∧ p.1.depth ≤ 8 ∧ RelV p.2 q.2.2) kvs xs
  nd : (kvs.map (·.1)).Nodup
  len : kvs.length ≤ sizeLine
  nm : (d == sysModules) = false
section
variable {K : Fg} {P : Program} {w : World} {H H' : Hp} {d : Addr} {kvs : List (D × V)} {T : List (Addr × Str)}
theorem DictAt.keep (x : DictAt K P w H d kvs) (h1 : ∀ o, H d = some o → H' d = some o) (h2 : Tk H H') : DictAt K P w H' d kvs := by
  obtain ⟨⟨o, es, ep, xs, a, b, c, e, p⟩, nd, l, nm⟩ := x
  exact ⟨⟨o, es, ep, xs, h1 _ a, b, c, e, Paired.mapP p fun _ _ ⟨q1, q2, q3⟩ => ⟨q1, Dt.mono (fun _ _ s => h2 K _ _ s) _ q2, q3⟩⟩, nd, l, nm⟩
theorem DictAt.raw (x : DictAt K P w H d kvs) : ∃ o, H d = some (RawO d o) ∧ ∃ es ep, o.data = .dict es ep := by
  obtain ⟨⟨o, es, ep, xs, a, b, c, e, p⟩, nd, l, nm⟩ := x
  exact ⟨o, a, es, ep, c⟩
theorem DictAt.rp (x : DictAt K P w H d kvs) (r : Rp T H H') : DictAt K P w H' d kvs := by
  obtain ⟨o, e, _⟩ := x.raw
  exact x.keep (fun u h => by
    rw [e] at h
    cases h
    exact r.keep _ _ e (fun ps => RawO.noTbl ps)) r.tk
theorem DictAt.tk (x : DictAt K P w H d kvs) {o : HO} : Tk H (upd H d o) := by
  obtain ⟨u, e, _⟩ := x.raw
  exact Tk.upd e (fun ps => RawO.noTup ps) (fun ob ps => RawO.noFrz _)
/-- a dict that came since H changes -/
theorem Rp.chgDN {H1 : Hp} {o : HO} (r : Rp T H H1) (hp : Nw H d) (x : DictAt K P w H1 d kvs) : Rp T H (upd H1 d o) := by
  obtain ⟨u, e, es, ep, hd⟩ := x.raw
  exact r.chg hp e (fun ps => RawO.noTbl ps) (fun q => RawO.noCode hd q)
theorem Rp.chgD {H1 : Hp} {o : HO} (r : Rp T H H1) (hp : H d = none) (x : DictAt K P w H1 d kvs) : Rp T H (upd H1 d o) := r.chgDN (Nw.of hp) x
theorem DictAt.ne_lst (x : DictAt K P w H d kvs) {a : Addr} {xs : List V} (h : H a = some (.lst xs)) : a ≠ d := by
  obtain ⟨u, e, _⟩ := x.raw
  exact ne_of h e (fun z => by unfold RawO at z; cases z)
theorem DictAt.ne_ins (x : DictAt K P w H d kvs) {a C dx : Addr} {fs : List (Str × V)} (h : H a = some (.ins C dx fs)) : a ≠ d := by
  obtain ⟨u, e, _⟩ := x.raw
  exact ne_of h e (fun z => by unfold RawO at z; cases z)
theorem DictAt.ne_dK (x : DictAt K P w H d kvs) {a : Addr} {xs : List (Key × V)} (h : H a = some (.dK xs)) : a ≠ d := by
  obtain ⟨u, e, _⟩ := x.raw
  exact ne_of h e (fun z => by unfold RawO at z; cases z)
end
section
variable {X : Cx} {pins : List (Addr × Obj)} {σ : L2.St} {H : Hp} {s : Shared} {d : Addr} {kvs : List (D × V)} {k : D} {v y : V} {u r : Value} {A : Around} {E : Value → Shared → Prop}
abbrev DictX (X : Cx) (H : Hp) (d : Addr) (kvs : List (D × V)) : Prop := DictAt X.K X.prog X.w H d kvs
theorem key_is (I : Inv X pins σ H s) {b : Addr} (h : Dt X.K H (.ref b) k) (hd : k.depth ≤ 8) : (NK X.prog X.w).is s.heap k b := ⟨Dt.nested I k h rfl, hd⟩
theorem DictAt.keyed (I : Inv X pins σ H s) (x : DictX X H d kvs) : ∃ vs : List (D × Value), Paired (fun p q => p.1 = q.1 ∧ RelV p.2 q.2) kvs vs ∧ s.heap.DictKeyed (NK X.prog X.w) d vs := by
  obtain ⟨⟨o, es, ep, xs, a, b, c, e, p⟩, nd, l, nm⟩ := x
  have hg : s.heap.get? d = some o := (I.hok d _ a).1
  refine ⟨pairsH xs, ?_, xs, ⟨o, es, ep, hg, b, c, e, ?_, ?_⟩, rfl⟩
  · clear e nd l
    induction p with
    | nil => exact .nil
    | cons h t ih => exact .cons ⟨h.1, h.2.2.2⟩ ih
  · clear e nd l
    induction p with
    | nil => intro x hx; cases hx
    | cons h t ih =>
      intro x hx
      rcases List.mem_cons.mp hx with e | hx
      · subst e
        obtain ⟨h1, h2, h3, _⟩ := h
        exact key_is I (by rw [← h1]; exact h2) (by rw [← h1]; exact h3)
      · exact ih x hx
  · have e2 : kvs.map (·.1) = xs.map (·.1) := by
      clear e nd l
      induction p with
      | nil => rfl
      | cons h t ih => rw [List.map_cons, List.map_cons, ih, h.1]
    rw [← e2]
    exact nd
theorem kv_val {kvs : List (D × V)} {vs : List (D × Value)} (p : Paired (fun p q => p.1 = q.1 ∧ RelV p.2 q.2) kvs vs) (k : D) : RelO (valV kvs k) (valueAt vs k) := KV.val p k
/-- back from a dict's object to what H tells -/
theorem DictAt.back {h' : Heap} {t' : Nat} {b : Addr} (I : Inv X pins σ H s) (x : DictX X H d kvs) (hk : Dt X.K H (.ref b) k) (hdp : k.depth ≤ 8) (rv : RelV v r) (hl : kvs.length < sizeLine) {vs : List (D × Value)} (pv : Paired (fun p q => p.1 = q.1 ∧ RelV p.2 q.2) kvs vs)
    (dk : ∃ xs, h'.DictOfH (NK X.prog X.w) d xs ∧ pairsH xs = stored vs k r ∧ ∀ y ∈ xs, Dt X.K H (.ref y.2.1) y.1 ∧ y.1.depth ≤ 8) (hs : Heap.SameBut d s.heap h') : ∃ H', H' = (fun o => upd H d (RawO d o)) (h'.get? d |>.getD default) ∧ Inv X pins σ H' { s with heap := h', toks := t' } ∧ DictX X H' d (putK kvs k v) := by
  obtain ⟨xs, ⟨o, es, ep, hg, hex, hdat, hes, his, hnd⟩, hp, hx⟩ := dk
  have hmut : Mut (H d) := by
    obtain ⟨u, e, _⟩ := x.raw
    rw [e]
    exact True.intro
  have tk := x.tk (o := RawO d o)
  refine ⟨_, rfl, ?_, ?_⟩
  · rw [hg]
    exact I.write (x := d) (e := d) (o := RawO d o) hmut (.inl rfl) (fun b q hb z => (hs.2 b hb).trans z) ⟨o, hg⟩ (RawO.ok hg)
  · rw [hg]
    have pr : Paired (fun (p q : D × _) => p.1 = q.1 ∧ RelV p.2 q.2) (putK kvs k v) (pairsH xs) := by
      rw [hp]
      exact KV.put pv k rv
    refine ⟨⟨o, es, ep, xs, upd_same, hex, hdat, hes, ?_⟩, ?_, Nat.le_trans (length_putK kvs k v) hl, x.nm⟩
    · clear hes his hnd hp
      revert pr
      generalize putK kvs k v = l
      intro pr
      induction xs generalizing l with
      | nil => cases pr; exact .nil
      | cons y ys ih =>
        cases pr with
        | cons h t =>
          obtain ⟨a1, a2⟩ := hx y List.mem_cons_self
          exact .cons ⟨h.1, Dt.mono (fun _ _ q => tk _ _ _ q) _ (by rw [h.1]; exact a1), by rw [h.1]; exact a2, h.2⟩ (ih (fun z hz => hx z (List.mem_cons_of_mem _ hz)) _ t)
    · have e2 : (putK kvs k v).map (·.1) = xs.map (·.1) := by
        have e3 : (pairsH xs).map (·.1) = xs.map (·.1) := by simp [pairsH, Function.comp_def]
        rw [← e3]
        clear hes his hnd hp hx e3
        revert pr
        generalize pairsH xs = m
        generalize putK kvs k v = l
        intro pr
        induction pr with
        | nil => rfl
        | cons h t ih => rw [List.map_cons, List.map_cons, ih, h.1]
      rw [e2]
      exact hnd
end

section
variable {X : Cx} {pins : List (Addr × Obj)} {σ : L2.St} {H : Hp} {s : Shared} {d b : Addr} {kvs : List (D × V)} {k : D} {v y : V} {u r : Value} {A : Around} {E : Value → Shared → Prop}
theorem DictAt.heap (I : Inv X pins σ H s) (x : DictX X H d kvs) : ∃ xs, s.heap.DictOfH (NK X.prog X.w) d xs ∧ Paired (fun (p q : D × _) => p.1 = q.1 ∧ RelV p.2 q.2) kvs (pairsH xs) ∧ (∀ y ∈ xs, Dt X.K H (.ref y.2.1) y.1 ∧ y.1.depth ≤ 8) ∧ xs.length = kvs.length := by
  obtain ⟨⟨o, es, ep, xs, a, bb, c, e, p⟩, nd, l, nm⟩ := x
  have hg : s.heap.get? d = some o := (I.hok d _ a).1
  have all : ∀ y ∈ xs, Dt X.K H (.ref y.2.1) y.1 ∧ y.1.depth ≤ 8 := by
    clear e nd l
    induction p with
    | nil => intro x hx; cases hx
    | cons h t ih =>
      intro x hx
      rcases List.mem_cons.mp hx with e | hx
      · subst e
        obtain ⟨h1, h2, h3, _⟩ := h
        exact ⟨by rw [← h1]; exact h2, by rw [← h1]; exact h3⟩
      · exact ih x hx
  refine ⟨xs, ⟨o, es, ep, hg, bb, c, e, fun y hy => key_is I (all y hy).1 (all y hy).2, ?_⟩, ?_, all, (Paired.length p).symm⟩
  · have e2 : kvs.map (·.1) = xs.map (·.1) := by
      clear e nd l all
      induction p with
      | nil => rfl
      | cons h t ih => rw [List.map_cons, List.map_cons, ih, h.1]
    rw [← e2]
    exact nd
  · clear e nd l all
    induction p with
    | nil => exact .nil
    | cons h t ih => exact .cons ⟨h.1, h.2.2.2⟩ ih
theorem stored_all {xs : List (D × Addr × Value)} {Pr : D → Addr → Prop} (h : ∀ y ∈ xs, Pr y.1 y.2.1) (hk : Pr k b) : ∀ y ∈ storedH xs k b r, Pr y.1 y.2.1 := by
  unfold storedH
  split
  · intro y hy
    obtain ⟨z, hz, e⟩ := List.mem_map.mp hy
    subst e
    unfold putAt
    split <;> exact h z hz
  · intro y hy
    rcases List.mem_append.mp hy with q | q
    · exact h y q
    · have e : y = (k, b, r) := by simpa using q
      subst e
      exact hk
theorem d_after {h' : Heap} {t' : Nat} {xs : List (D × Addr × Value)} (I : Inv X pins σ H s) (x : DictX X H d kvs) (hk : Dt X.K H (.ref b) k) (hdp : k.depth ≤ 8) (rv : RelV v r) (hl : kvs.length < sizeLine) (pv : Paired (fun (p q : D × _) => p.1 = q.1 ∧ RelV p.2 q.2) kvs (pairsH xs))
    (all : ∀ y ∈ xs, Dt X.K H (.ref y.2.1) y.1 ∧ y.1.depth ≤ 8) (hm : h'.DictOfH (NK X.prog X.w) d (storedH xs k b r)) (hs : Heap.SameBut d s.heap h') {Q : Unit → Shared → Prop}
    (h : ∀ H' s', Inv X pins σ H' s' → (∃ o, H' = upd H d (RawO d o)) → DictX X H' d (putK kvs k v) → Q () s') : Q () { s with heap := h', toks := t' } := by
  obtain ⟨H', e, I', x'⟩ := x.back (t' := t') I hk hdp rv hl pv ⟨_, hm, pairsH_storedH xs k b r, stored_all (Pr := fun k a => Dt X.K H (.ref a) k ∧ k.depth ≤ 8) all ⟨hk, hdp⟩⟩ hs
  exact h H' _ I' ⟨_, e⟩ x'
theorem d_setK {Q : Unit → Shared → Prop} (hu : A.units + 9 < cLine) (I : Inv X pins σ H s) (x : DictX X H d kvs) (hk : Dt X.K H (.ref b) k) (hdp : k.depth ≤ 8) (rv : RelV v r) (hl : kvs.length < sizeLine)
    (h : ∀ H' s', Inv X pins σ H' s' → (∃ o, H' = upd H d (RawO d o)) → DictX X H' d (putK kvs k v) → Q () s') : wpAny (model X.prog X.w) A (setItem (.ref d) (.ref b) r) Q E s := by
  obtain ⟨xs, hm, pv, all, hlen⟩ := x.heap I
  exact wpAny_setItem_heap (hsz := by rw [hlen]; exact x.len) (by show A.in1.units + 8 < cLine; rw [Around.in1_units]; omega) (key_is I hk hdp) hm fun h' hm' hs => d_after I x hk hdp rv hl pv all hm' hs h
theorem d_setD {Q : Unit → Shared → Prop} (hu : A.units + 9 < cLine) (I : Inv X pins σ H s) (x : DictX X H d kvs) (hk : Dt X.K H (.ref b) k) (hdp : k.depth ≤ 8) (rv : RelV v r) (hl : kvs.length < sizeLine)
    (h : ∀ H' s', Inv X pins σ H' s' → (∃ o, H' = upd H d (RawO d o)) → DictX X H' d (putK kvs k v) → Q () s') : wpAny (model X.prog X.w) A (dictSet d (.ref b) r) Q E s := by
  obtain ⟨xs, hm, pv, all, hlen⟩ := x.heap I
  exact wpAny_dictSet_heap (hsz := by rw [hlen]; exact x.len) (by show A.units + 8 < cLine; omega) (key_is I hk hdp) hm fun h' hm' hs => d_after I x hk hdp rv hl pv all hm' hs h
end

/-! ### readings -/
/-- the key: data at an address -/
def KeyV (K : Fg) (H : Hp) (y : V) (k : D) : Prop := Dt K H y k ∧ k.depth ≤ 8 ∧ ∃ b, y = .ref b
def tKGet (K : Fg) (P : Program) (w : World) (td ty : TE) : TE := fun σ H Q => td σ H fun x H1 => ty σ H1 fun y H2 => ∃ a kvs k v, x = .ref a ∧ DictAt K P w H2 a kvs ∧ KeyV K H2 y k ∧ valV kvs k = some v ∧ Q v H2
def tKIn (K : Fg) (P : Program) (w : World) (neg : Bool) (ty td : TE) : TE := fun σ H Q => ty σ H fun y H1 => td σ H1 fun x H2 => ∃ a kvs k, x = .ref a ∧ DictAt K P w H2 a kvs ∧ KeyV K H2 y k ∧ Q (.bl (if neg then !(valV kvs k).isSome else (valV kvs k).isSome)) H2
def tKGet1 (K : Fg) (P : Program) (w : World) (td ty : TE) : TE := fun σ H Q => td σ H fun x H1 => ∃ a kvs, x = .ref a ∧ DictAt K P w H1 a kvs ∧ ty σ H1 fun y H2 => ∃ kvs k, DictAt K P w H2 a kvs ∧ KeyV K H2 y k ∧ Q ((valV kvs k).getD .non) H2
def tKGet2 (K : Fg) (P : Program) (w : World) (td ty tx : TE) : TE := fun σ H Q => td σ H fun x H1 => ∃ a kvs, x = .ref a ∧ DictAt K P w H1 a kvs ∧ ty σ H1 fun y H2 => tx σ H2 fun z H3 => ∃ kvs k, DictAt K P w H3 a kvs ∧ KeyV K H3 y k ∧ Q ((valV kvs k).getD z) H3
def setK (K : Fg) (P : Program) (w : World) : TSet := fun o i v H Q => ∃ d kvs k, o = .ref d ∧ DictAt K P w H d kvs ∧ KeyV K H i k ∧ kvs.length < sizeLine ∧ ∀ H', (∃ ob, H' = upd H d (RawO d ob)) → DictAt K P w H' d (putK kvs k v) → Q H'
def tKNew (K : Fg) (P : Program) (w : World) : TE := fun _ H Q => ∀ p H', H p = none → (∃ o, H' = upd H p (RawO p o)) → DictAt K P w H' p [] → Q (.ref p) H'
section
variable {X : Cx} {o i e f : Expr} {pos apos cpos : Pos} {td ty tx : TE}
theorem pe_kget (hu : X.A.units + 9 < cLine) (ho : PE X o td) (hi : PE X i ty) (hs : NoSl i) : PE X (.Subscript o i pos) (tKGet X.K X.prog X.w td ty) := by
  refine ⟨fun pins s σ H Q I h => ?_⟩
  refine subD_of PySem.F.slot_dict_getitem.lookup hs (thn (ho.run pins s σ H _ I h) fun u s1 ⟨x, H1, I1, rx, q1⟩ => thn (hi.run pins s1 σ H1 _ I1 q1) fun iv s2 ⟨y, H2, I2, ry, a, kvs, k, v, ex, hd, ⟨hk, hdp, b, eb⟩, hv, q⟩ => ?_)
  subst ex eb
  obtain rfl : u = Value.ref a := rx
  obtain rfl : iv = Value.ref b := ry
  obtain ⟨xs, hm, pv, all, hlen⟩ := hd.heap I2
  obtain ⟨w', hw, rw'⟩ := RelO.some_of (v := v) (o := valueAt (pairsH xs) k) (by rw [← hv]; exact kv_val pv k)
  rw [valueAt_pairsH] at hw
  obtain ⟨p, hp, hp2⟩ := Option.map_eq_some_iff.mp hw
  refine ⟨hm.typeIs, wpAny_getItem_heap (by show X.A.in1.units + 8 < cLine; rw [Around.in1_units]; omega) (key_is I2 hk hdp) hm hp ?_⟩
  rw [hp2]
  exact ⟨v, H2, I2.tok _, rw', q⟩
theorem pc_kin (hu : X.A.units + 9 < cLine) (hi : PE X i ty) (ho : PE X o td) : PC X .In i o (tKIn X.K X.prog X.w false ty td) := by
  refine ⟨fun pins s σ H Q I h => ?_⟩
  refine thn (hi.run pins s σ H _ I h) fun iv s1 ⟨y, H1, I1, ry, q1⟩ => thn (ho.run pins s1 σ H1 _ I1 q1) fun u s2 ⟨x, H2, I2, rx, a, kvs, k, ex, hd, ⟨hk, hdp, b, eb⟩, q⟩ => ?_
  subst ex eb
  obtain rfl : u = Value.ref a := rx
  obtain rfl : iv = Value.ref b := ry
  obtain ⟨xs, hm, pv, all, hlen⟩ := hd.heap I2
  refine in_keyed (knd := NK X.prog X.w) (by show X.A.in1.units + 8 < cLine; rw [Around.in1_units]; omega) (key_is I2 hk hdp) hd.nm ⟨xs, hm, rfl⟩ ?_
  rw [← (kv_val pv k).isSome_eq]
  exact ⟨.bl _, H2, I2.tok _, rfl, q⟩
theorem pc_knotin (hu : X.A.units + 9 < cLine) (hi : PE X i ty) (ho : PE X o td) : PC X .NotIn i o (tKIn X.K X.prog X.w true ty td) := by
  refine ⟨fun pins s σ H Q I h => ?_⟩
  refine thn (hi.run pins s σ H _ I h) fun iv s1 ⟨y, H1, I1, ry, q1⟩ => thn (ho.run pins s1 σ H1 _ I1 q1) fun u s2 ⟨x, H2, I2, rx, a, kvs, k, ex, hd, ⟨hk, hdp, b, eb⟩, q⟩ => ?_
  subst ex eb
  obtain rfl : u = Value.ref a := rx
  obtain rfl : iv = Value.ref b := ry
  obtain ⟨xs, hm, pv, all, hlen⟩ := hd.heap I2
  refine notIn_keyed (knd := NK X.prog X.w) (by show X.A.in1.units + 8 < cLine; rw [Around.in1_units]; omega) (key_is I2 hk hdp) hd.nm ⟨xs, hm, rfl⟩ ?_
  rw [← (kv_val pv k).isSome_eq]
  exact ⟨.bl _, H2, I2.tok _, rfl, q⟩
theorem DictAt.type {pins : List (Addr × Obj)} {σ : L2.St} {H : Hp} {s : Shared} {a : Addr} {kvs : List (D × V)} (I : Inv X pins σ H s) (hd : DictX X H a kvs) : s.TypeIs (.ref a) "dict" ∧ ∀ b, Value.ref a = .ref b → ∃ ob, s.heap.get? b = some ob ∧ ob.dict = none := by
  obtain ⟨xs, hm, _⟩ := hd.heap I
  exact ⟨hm.typeIs, dictOfH_noDict hm⟩
theorem pe_kget1 (hu : X.A.units + 9 < cLine) (ho : PE X o td) (he : PE X e ty) (m : M1 X o "get" apos e cpos) : PE X (.Call (.Attribute o "get" apos) [e] [] cpos) (tKGet1 X.K X.prog X.w td ty) := by
  refine ⟨fun pins s σ H Q I h => ?_⟩
  refine wpAny_Call_method m.base m.few m.line PySem.F.plainAttrs_dict PySem.F.slot_dict_get PySem.F.type_dict_get (thn (ho.run pins s σ H _ I h) fun u s1 ⟨x, H1, I1, rx, a, kvs0, ex, hd0, q1⟩ => ?_)
  subst ex
  obtain rfl : u = Value.ref a := rx
  obtain ⟨t1, t2⟩ := hd0.type I1
  refine ⟨t1, t2, ?_⟩
  rw [m.trees]
  refine Calls.callWith_builtin rfl (Calls.evalArgs_plain (Calls.spliced_cons (thn (he.run pins s1 σ H1 _ I1 q1) fun iv s2 ⟨y, H2, I2, ry, kvs, k, hd, ⟨hk, hdp, b, eb⟩, q⟩ => Calls.spliced_nil ?_)))
  subst eb
  obtain rfl : iv = Value.ref b := ry
  obtain ⟨xs, hm, pv, all, hlen⟩ := hd.heap I2
  exact get_keyed (knd := NK X.prog X.w) (by show X.A.in1.units + 8 < cLine; rw [Around.in1_units]; omega) (key_is I2 hk hdp) hd.nm ⟨xs, hm, rfl⟩ ⟨_, H2, I2.tok _, (kv_val pv k).getD (d := V.non) (d' := Value.none) rfl, q⟩
theorem pe_kget2 (hu : X.A.units + 9 < cLine) (ho : PE X o td) (he : PE X e ty) (hf : PE X f tx) (m : M2 X o "get" apos e f cpos) : PE X (.Call (.Attribute o "get" apos) [e, f] [] cpos) (tKGet2 X.K X.prog X.w td ty tx) := by
  refine ⟨fun pins s σ H Q I h => ?_⟩
  refine wpAny_Call_method m.base m.few m.line PySem.F.plainAttrs_dict PySem.F.slot_dict_get PySem.F.type_dict_get (thn (ho.run pins s σ H _ I h) fun u s1 ⟨x, H1, I1, rx, a, kvs0, ex, hd0, q1⟩ => ?_)
  subst ex
  obtain rfl : u = Value.ref a := rx
  obtain ⟨t1, t2⟩ := hd0.type I1
  refine ⟨t1, t2, ?_⟩
  rw [m.trees]
  refine Calls.callWith_builtin rfl (Calls.evalArgs_plain (Calls.spliced_cons (thn (he.run pins s1 σ H1 _ I1 q1) fun iv s2 ⟨y, H2, I2, ry, q2⟩ => Calls.spliced_cons (thn (hf.run pins s2 σ H2 _ I2 q2) fun fv s3 ⟨z, H3, I3, rz, kvs, k, hd, ⟨hk, hdp, b, eb⟩, q⟩ => Calls.spliced_nil ?_))))
  subst eb
  obtain rfl : iv = Value.ref b := ry
  obtain ⟨xs, hm, pv, all, hlen⟩ := hd.heap I3
  exact getOr_keyed (knd := NK X.prog X.w) (by show X.A.in1.units + 8 < cLine; rw [Around.in1_units]; omega) (key_is I3 hk hdp) hd.nm ⟨xs, hm, rfl⟩ ⟨_, H3, I3.tok _, (kv_val pv k).getD rz, q⟩
theorem set_k (hu : X.A.units + 9 < cLine) : PSet X (setK X.K X.prog X.w) := by
  intro pins s σ H o i v ov iv u Q I ro ri rv h
  obtain ⟨d, kvs, k, eo, hd, ⟨hk, hdp, b, eb⟩, hl, q⟩ := h
  subst eo eb
  obtain rfl : ov = Value.ref d := ro
  obtain rfl : iv = Value.ref b := ri
  exact d_setK hu I hd hk hdp rv hl fun H' s' I' e x' => ⟨H', I', q H' e x'⟩
theorem pe_knew : PE X (.Dict [] [] pos) (tKNew X.K X.prog X.w) := ⟨fun pins s σ H Q I h =>
  wpAny_Dict_empty ⟨.ref s.heap.objs.size, _, I.laid (a := s.heap.objs.size) (o := RawO s.heap.objs.size { cls := .type "dict", data := .dict #[] }) (t' := s.toks) (fun _ _ q => Heap.get?_push_of_some _ q) (Nat.le_refl _) (RawO.ok (Heap.get?_push_size _ rfl)), rfl,
    h _ _ I.fresh ⟨_, rfl⟩ ⟨⟨_, #[], 0, [], upd_same, ⟨rfl, rfl, rfl⟩, rfl, rfl, .nil⟩, List.nodup_nil, Nat.zero_le _, beq_eq_false_iff_ne.mpr (Ne.symm (Nat.ne_of_lt I.big))⟩⟩⟩
end
end K20
namespace K20
open PySem PySem.Spec PyProof.Rows L2
/-! ### for k in d; list(d) -/
/-- the entries behind: at i the key's tuple -/
structure Ents (K : Fg) (P : Program) (w : World) (H : Hp) (d : Addr) (ks : List D) (o : Obj) : Prop where
  at_ : H d = some (RawO d o)
  ex : o.ExactDict
  nm : (d == sysModules) = false
  dat : ∃ (es : Array DictEntry) (ep : Nat) (qs : List Addr), o.data = .dict es ep ∧ es.size = ks.length ∧ Paired (fun k q => Dt K H (.ref q) k) ks qs ∧ ∀ (i : Nat) (q : Addr), qs[i]? = some q → ∃ e, es[i]? = some e ∧ e.key = .ref q
theorem DictAt.ents {K : Fg} {P : Program} {w : World} {H : Hp} {d : Addr} {kvs : List (D × V)} (x : DictAt K P w H d kvs) : ∃ o, Ents K P w H d (kvs.map (·.1)) o := by
  obtain ⟨⟨o, es, ep, xs, a, b, c, e, p⟩, nd, l, nm⟩ := x
  refine ⟨o, a, b, nm, es, ep, xs.map (fun y => y.2.1), c, ?_, ?_, fun i q hq => ?_⟩
  · rw [List.length_map, p.length, ← Array.length_toList, e, List.length_map]
  · clear e nd l
    induction p with
    | nil => exact .nil
    | cons h t ih => exact .cons h.2.1 ih
  · rw [List.getElem?_map] at hq
    obtain ⟨y, hy, e2⟩ := Option.map_eq_some_iff.mp hq
    refine ⟨entryOfKey (NK P w) y, ?_, by rw [← e2]; rfl⟩
    rw [← Array.getElem?_toList, e, List.getElem?_map, hy]
    rfl
theorem Ents.rp {K : Fg} {P : Program} {w : World} {H H' : Hp} {d : Addr} {ks : List D} {o : Obj} {T : List (Addr × Str)} (x : Ents K P w H d ks o) (r : Rp T H H') : Ents K P w H' d ks o := by
  obtain ⟨a, b, c, es, ep, qs, h1, h2, h3, h4⟩ := x
  exact ⟨r.keep _ _ a (fun ps => RawO.noTbl ps), b, c, es, ep, qs, h1, h2, Paired.mapP h3 fun _ _ q => Dt.mono (fun _ _ s => r.tup s) _ q, h4⟩
def ItK (K : Fg) (P : Program) (w : World) (d : Addr) (o : Obj) (ks : List D) : It :=
  ⟨fun i H => Ents K P w H d ks o ∧ i < ks.length, fun i H x H' => H' = H ∧ ∃ k, ks[i]? = some k ∧ Dt K H x k ∧ ∃ q, x = .ref q, fun i H => Ents K P w H d ks o ∧ ks.length ≤ i⟩
theorem qs_get {K : Fg} {H : Hp} {ks : List D} {qs : List Addr} (h : Paired (fun k q => Dt K H (.ref q) k) ks qs) {i : Nat} {k : D} (e : ks[i]? = some k) : ∃ q, qs[i]? = some q ∧ Dt K H (.ref q) k := by
  induction h generalizing i with
  | nil => simp at e
  | cons a t ih =>
    cases i with
    | zero => cases e; exact ⟨_, rfl, a⟩
    | succ j =>
      obtain ⟨q, h1, h2⟩ := ih (i := j) (by simpa using e)
      exact ⟨q, by simpa using h1, h2⟩
section
variable {K : Fg} {P : Program} {w : World} {tg : Expr} {d : Addr} {o : Obj} {ks : List D} {es : Array DictEntry} {ep : Nat}
theorem turn_kk (it : Addr) (hod : o.data = .dict es ep) : Turn P w K tg (ItK K P w d o ks) [it] it (fun i h => h.IsKeyIter it d i ks.length ep) where
  mem := List.mem_singleton.mpr rfl
  obj := fun i h st b hb => by
    obtain rfl := List.mem_singleton.mp hb
    obtain ⟨oi, e, _, dd⟩ := st
    exact ⟨oi, e, fun v z => by rw [dd] at z; cases z⟩
  keep := fun i h h' st k => st.at fun oi e => k it (List.mem_singleton.mpr rfl) oi e
  item := by
    intro X hP hw hK hc i pins s σ H E I hf st ⟨x, hi⟩
    subst hP hw hK
    obtain ⟨a, b, c, es', ep', qs, h1, h2, h3, h4⟩ := id x
    obtain ⟨rfl, rfl⟩ := dict_ep hod h1
    have hgd : s.heap.get? d = some o := (I.hok d _ a).1
    obtain ⟨q, hq, dq⟩ := qs_get h3 (List.getElem?_eq_getElem hi)
    obtain ⟨e, he, hk⟩ := h4 i q hq
    obtain ⟨f0, f1, f2, f3, f4, f5⟩ := hf it (List.mem_singleton.mpr rfl)
    refine next_key_item st hgd h1 h2 he fun h' st' sb => ⟨e.key, rfl, ?_⟩
    obtain ⟨oi, e1, c1, dd⟩ := id st'
    refine go_of (s := { s with heap := h' }) e1 c1 dd (by decide) ?_
    exact ⟨.ref q, H, I.turned (t' := s.toks) (fun b ob hb e => (sb.2 b hb).trans e) f0 f1 f3 f4 f5, hk, ⟨rfl, _, List.getElem?_eq_getElem hi, dq, q, rfl⟩, st', fun b hb => (hf b hb).1⟩
  done := by
    intro X hP hw hK hc i pins s σ H E I hf st ⟨x, hi⟩
    subst hP hw hK
    obtain ⟨a, b, c, es', ep', qs, h1, h2, h3, h4⟩ := id x
    obtain ⟨rfl, rfl⟩ := dict_ep hod h1
    obtain ⟨f0, f1, f2, f3, f4, f5⟩ := hf it (List.mem_singleton.mpr rfl)
    exact next_key_end (I.ok.hd hc) st (I.hok d _ a).1 h1 h2 hi fun h' eb => ⟨rfl, I.turned (t' := s.toks) (fun b ob hb e => eb b ob hb e) f0 f1 f3 f4 f5⟩
  self := fun A i s Q E st h => (turn_keysT (P := P) (w := w) (K := K) (tg := tg) (d := d) (kvs := List.replicate ks.length ([], V.non)) it hod).self A i s Q E (by rw [List.length_replicate]; exact st) h
end
def iKK (K : Fg) (P : Program) (w : World) (td : TE) : TI := fun σ H R => td σ H fun x H1 => ∃ d o ks, x = .ref d ∧ Ents K P w H1 d ks o ∧ R (ItK K P w d o ks) H1
theorem walk_kk {K : Fg} {P : Program} {w : World} {d : Addr} {o : Obj} {ks : List D} : Walk (ItK K P w d o ks) ks.length (fun H => Ents K P w H d ks o) (fun i H x H' => H' = H ∧ ∃ k, ks[i]? = some k ∧ Dt K H x k ∧ ∃ q, x = .ref q) :=
  ⟨fun _ _ hi q => ⟨q, hi⟩, fun _ q => ⟨q, Nat.le_refl _⟩, fun _ _ _ _ _ _ y => y⟩
section
variable {X : Cx} {tg e : Expr} {td : TE}
theorem pi_kk (he : PE X e td) : PI X tg e (iKK X.K X.prog X.w td) := by
  refine ⟨fun pins s σ H R I h => ?_⟩
  refine thn (he.run pins s σ H _ I h) fun u s1 ⟨x, H1, I1, rx, d, o, ks, ex, y, q⟩ => ?_
  subst ex
  obtain rfl : u = Value.ref d := rx
  obtain ⟨a, b, c, es, ep, qs, h1, h2, h3, h4⟩ := id y
  refine iter_keys c (I1.hok d _ a).1 b h1 (pi_one (tk := s1.toks) I1 _ (turn_kk _ h1) ⟨_, Heap.get?_push_size _ rfl, rfl, ?_⟩ q)
  rw [h2]
  rfl
/-- list(d) -/
def rListK (K : Fg) (P : Program) (w : World) : List V → Hp → VK → Prop := fun xs H Q => ∃ d o ks, xs = [.ref d] ∧ Ents K P w H d ks o ∧ ks.length ≤ sizeLine ∧ ∀ (qs : List Addr) l, H l = none → Paired (fun k q => Dt K H (.ref q) k) ks qs → Q (.ref l) (upd H l (.lst (qs.map V.ref)))
theorem vals_refs : ∀ qs : List Addr, Vals (qs.map V.ref) (qs.map Value.ref)
  | [] => .nil
  | _ :: r => .cons rfl (vals_refs r)
theorem cr_listK (hc : X.calm = true) : CallR X (.type "list") (rListK X.K X.prog X.w) := by
  intro pins s σ H xs us Q I r h
  obtain ⟨d, o, ks, ex, y, hl, q⟩ := h
  subst ex
  obtain rfl := Vals.ref1 r
  obtain ⟨a, b, c, es, ep, qs, h1, h2, h3, h4⟩ := id y
  refine PySem.W.kdl_call (KdlSrc.rawDict c) (I.ok.hd hc) ⟨o, (I.hok d _ a).1, b, h1⟩ (by rw [h2]; exact hl) fun h' tk acc' c' hk hD hacc => ?_
  have ea : acc'.toList = qs.map Value.ref := by
    apply List.ext_getElem?
    intro i
    have hq : qs.length = es.size := by rw [h2, h3.length]
    by_cases hi : i < es.size
    · have hs : i < acc'.size := by rw [hacc.1]; exact hi
      obtain ⟨v, hv⟩ : ∃ v, acc'[i]? = some v := ⟨acc'[i], Array.getElem?_eq_getElem hs⟩
      obtain ⟨hi2, e⟩ := hacc.2 i v hv
      obtain ⟨q', hq'⟩ : ∃ q', qs[i]? = some q' := ⟨qs[i]'(by rw [hq]; exact hi), List.getElem?_eq_getElem _⟩
      obtain ⟨en, he, hkey⟩ := h4 i q' hq'
      rw [Array.getElem?_eq_getElem hi] at he
      cases he
      rw [Array.getElem?_toList, hv, List.getElem?_map, hq', e, hkey]
      rfl
    · have e1 : acc'.size = es.size := hacc.1
      rw [Array.getElem?_toList, Array.getElem?_eq_none (by omega), List.getElem?_eq_none (by rw [List.length_map]; omega)]
  have e0 : acc' = (qs.map Value.ref).toArray := by rw [← ea, Array.toArray_toList]
  subst e0
  have hz : (qs.map V.ref).length ≤ sizeLine := by rw [List.length_map, ← h3.length]; exact hl
  exact ⟨.ref s.heap.objs.size, _, I.laid (a := s.heap.objs.size) (o := .lst (qs.map V.ref)) (t' := tk) hk (Nat.le_refl _) ⟨hz, _, c', vals_refs qs, hD⟩, rfl, q qs _ I.fresh h3⟩
end
end K20
namespace K20
open PySem PySem.Spec PyProof.Rows L2
/-! ### a comprehension that gathers into a new object of any kind -/
/-- acc: what gathering one turn's item asks; ini: the new object -/
def tGc (ini : Addr → Hp → Hp → Prop) (wi : TI) (g : TG) (tt : TT) (acc : L2.St → Hp → Addr → (Hp → Prop) → Prop) (vs : List Nat) : TE := fun σ H Q => wi σ H fun J H1 => ∀ A HA, H1 A = none → ini A H1 HA →
  ∃ W : Nat → Nat → Hp → Prop, (∃ m, W 0 m HA) ∧ ∀ i m H, W i m H → (J.stop i H ∧ Q (.ref A) H) ∨
    (J.go i H ∧ ∃ Nx : Hp → Prop, (∀ H', Nx H' → ∃ m', m' < m ∧ W (i + 1) m' H') ∧ ∀ x H', J.yld i H x H' → g x (wipe σ vs) H' fun σ2 H2 => wipe σ2 vs = wipe σ vs ∧ tt σ2 H2 fun b H3 => if b = true then acc σ2 H3 A Nx else Nx H3)
/-- the same by a walk -/
theorem gc_it {J : It} {n : Nat} {G : Hp → Prop} {YY : Nat → Hp → V → Hp → Prop} (w : Walk J n G YY) {g : TG} {tt : TT} {acc : L2.St → Hp → Addr → (Hp → Prop) → Prop} {vs : List Nat} {σ : L2.St} {HA : Hp} {A : Addr} {Qd : Hp → Prop} (Pv : Nat → Hp → Prop) (h0 : Pv 0 HA) (hG : ∀ i H, i ≤ n → Pv i H → G H)
    (hs : ∀ i x H H', i < n → Pv i H → YY i H x H' → g x (wipe σ vs) H' fun σ2 H2 => wipe σ2 vs = wipe σ vs ∧ tt σ2 H2 fun b H3 => if b = true then acc σ2 H3 A (Pv (i + 1)) else Pv (i + 1) H3) (hd : ∀ H, Pv n H → Qd H) :
    ∃ W : Nat → Nat → Hp → Prop, (∃ m, W 0 m HA) ∧ ∀ i m H, W i m H → (J.stop i H ∧ Qd H) ∨
      (J.go i H ∧ ∃ Nx : Hp → Prop, (∀ H', Nx H' → ∃ m', m' < m ∧ W (i + 1) m' H') ∧ ∀ x H', J.yld i H x H' → g x (wipe σ vs) H' fun σ2 H2 => wipe σ2 vs = wipe σ vs ∧ tt σ2 H2 fun b H3 => if b = true then acc σ2 H3 A Nx else Nx H3) := by
  refine ⟨fun i m H => m = n - i ∧ i ≤ n ∧ Pv i H, ⟨n, (Nat.sub_zero n).symm, Nat.zero_le _, h0⟩, fun i m H ⟨e, hi, p⟩ => ?_⟩
  have gH := hG i H hi p
  rcases Nat.lt_or_ge i n with hlt | hge
  · exact .inr ⟨w.goes i H hlt gH, Pv (i + 1), fun H' p' => ⟨n - (i + 1), by omega, rfl, hlt, p'⟩, fun x H' y => hs i x H H' hlt p (w.yields i H x H' hlt gH y)⟩
  · obtain rfl : i = n := Nat.le_antisymm hi hge
    exact .inl ⟨w.stops H gH, hd H p⟩
section
variable {X : Cx}
/-- the block's context -/
abbrev blkX (X : Cx) (scope : Scope) (s : Shared) (H : Hp) (C : Addr) (cl : List (Str × Addr)) (fp : List Addr) : Cx := X.blk s H scope (compEnvC scope cl C X.env) fp
/-- e: the comprehension; mk: its new object; lp: its loop by one turn; bd: what gathers -/
theorem gc_core {pins : List (Addr × Obj)} {s : Shared} {σ : L2.St} {H : Hp} {Q : VK} {e tg iter : Expr} {ifs : List Expr} {rest : List Comprehension} {scope : Scope} {own : List (Str × Nat)} {pos' : Pos} {wi : TI} {g : TG} {tt : TT} {ini : Addr → Hp → Hp → Prop}
    {acc : L2.St → Hp → Addr → (Hp → Prop) → Prop} {mk : Sem Value} {new : World → Obj} {bd : Env → Addr → (Shared → Prop) → Shared → Prop} (hcl : clausesOf e = ⟨tg, iter, ifs, 0⟩ :: rest)
    (hmk : ∀ (s : Shared) (Q : Value → Shared → Prop), Q (.ref s.heap.objs.size) { s with heap := s.heap.push (new X.w) } → wpAny (model X.prog X.w) X.A mk Q X.xe s)
    (hnew : ∀ (s : Shared) (H : Hp), Inv X pins σ H s → ∃ o, ini s.heap.objs.size H (upd H s.heap.objs.size o) ∧ ∀ H', ObjOk X.prog X.w H' (s.heap.push (new X.w)) s.heap.objs.size o)
    (hlp : ∀ (it A : Addr) (cenv : Env) (R : Result → Shared → Prop) (I : Nat → Shared → Prop) (s : Shared),
      (∀ k s, I k s → wpAny (model X.prog X.w) X.A (pyNext (.ref it)) (fun r s1 => match r with
        | none => R (.ok .next) s1
        | some v => wpAny (model X.prog X.w) X.A (letOwnedTupleGo tg (.ref it) v) (fun _ s2 => wpAny (model X.prog X.w) X.A (assign tg cenv v) (fun _ s3 =>
            wpAny (model X.prog X.w) X.A (testsOf ifs cenv) (fun ok sB => if ok = true then bd cenv A (fun sC => ∃ m, m < k ∧ I m sC) sB else ∃ m, m < k ∧ I m sB) (fun _ _ => False) s3) (fun _ _ => False) s2) (fun _ _ => False) s1) (fun _ _ => False) s) →
      ∀ k, I k s → codeAny (model X.prog X.w) X.A (.compLoop e 0 (.ref it) (.ref A) cenv) R s)
    (hst : ∀ (it A : Addr) (cenv : Env) (R : Result → Shared → Prop) (s : Shared), codeAny (model X.prog X.w) X.A (.compLoop e 0 (.ref it) (.ref A) cenv) R s →
      (∀ E, wpAny (model X.prog X.w) X.A (pyIter (.ref it)) (fun it' s' => codeAny (model X.prog X.w) X.A (.compLoop e 0 it' (.ref A) cenv) R s') E s) → codeAny (model X.prog X.w) X.A (.compStart e 0 (.ref it) (.ref A) cenv) R s)
    (hc : X.calm = true) (hN : X.N.Nodup) (I : Inv X pins σ H s)
    (hi : PI X tg iter wi) (ok : BlkOk X.N X.env.scope scope own)
    (hg : ∀ s H C cl fp, PG (blkX X scope s H C cl fp) tg g) (ht : ∀ s H C cl fp, PTs (blkX X scope s H C cl fp) ifs tt)
    (hb : ∀ s H C cl fp A pins s' σ' H' Nx, Inv (blkX X scope s H C cl fp) pins σ' H' s' → acc σ' H' A Nx → bd (compEnvC scope cl C X.env) A (fun s2 => ∃ H2, Inv (blkX X scope s H C cl fp) pins σ' H2 s2 ∧ Nx H2) s')
    (hmn : ∀ cenv A (P P' : Shared → Prop) s, (∀ s, P s → P' s) → bd cenv A P s → bd cenv A P' s)
    (hs : ∀ x, foldedSetIterable iter X.env x = pure x) (h : tGc ini wi g tt acc (own.map (·.2)) σ H Q) :
    wpAny (model X.prog X.w) X.A (comprehension e scope X.env pos' mk false (eval iter X.env) none) (EP X pins σ Q) X.xe s := by
  have hfree : ∀ y ∈ scope.names, y.2 = .free → ∃ c, X.env.cells.lookup y.1 = some c := fun y hy z => (ok.free y hy z).elim (fun k => I.ok.has _ (.inl k)) fun k => I.ok.has _ (.inr k)
  refine wpAny_comprehension_free (use := none) hcl hs (closure_ok hfree) ok.kind (fun y hy z => by rw [ok.uniq y hy, z]) (thn (hi.run pins s σ H _ I h) fun xv s1 hx => thn hx fun itv s2 h2 => ?_)
  obtain ⟨it, fp, tn, J, H2, e1, I2, T, st2, f2, q⟩ := h2
  subst e1
  refine hmk s2 _ (newEnv_comp ?_)
  obtain ⟨o, hini, hok⟩ := hnew s2 H2 I2
  generalize hA : s2.heap.objs.size = A at hini hok ⊢
  have hAn : H2 A = none := I2.hok.fresh (Nat.le_of_eq hA)
  obtain ⟨W, ⟨m0, w0⟩, turn⟩ := q A _ hAn hini
  have h3 : Inv X pins σ (upd H2 A o) { s2 with heap := s2.heap.push (new X.w) } := I2.laid (a := A) (t' := s2.toks) (fun b u z => Heap.get?_push_of_some _ z) (Nat.le_of_eq hA) (hok _)
  have szn : s2.heap.objs.size < (s2.heap.push (new X.w)).objs.size := by rw [Heap.size_push]; exact Nat.lt_succ_self _
  generalize hs3 : ({ s2 with heap := s2.heap.push (new X.w) } : Shared) = s3 at h3
  have e3 : s3.heap = s2.heap.push (new X.w) := by rw [← hs3]
  have f3 : ∀ b ∈ fp, FpOk X pins (upd H2 A o) b ∧ b < s3.heap.objs.size := fun b hb => by
    obtain ⟨u, z, _⟩ := T.obj _ _ st2 b hb
    have lt := Heap.lt_size z
    exact ⟨⟨by rw [upd_ne (by rw [← hA]; exact Nat.ne_of_lt lt)]; exact (f2 b hb).1, (f2 b hb).2⟩, by rw [e3]; exact Nat.lt_trans lt szn⟩
  have st3 : tn 0 s3.heap := T.keep _ _ _ st2 fun b _ u z => by rw [e3]; exact Heap.get?_push_of_some _ z
  have I4 := block_start h3 ok hN f3
  show codeAny _ _ (.compStart e 0 (.ref it) (.ref A) (compEnvC scope (cellsFrom (s3.heap.objs.size + 1) scope.names (cloFrom X.env.cells scope.names [])) s3.heap.objs.size X.env)) (compPost (model X.prog X.w) X.A X.xe none (EP X pins σ Q) (.ref A) s3.heap.objs.size) { s3 with heap := pushCells (s3.heap.push { cls := .type "dict", data := .dict #[] }) scope.names }
  generalize hcs : cellsFrom (s3.heap.objs.size + 1) scope.names (cloFrom X.env.cells scope.names []) = cs at I4 ⊢
  have nfp : ∀ b ∈ fp, (upd H2 A o) b = none := fun b hb => (f3 b hb).1.1
  generalize hH3 : upd H2 A o = H3 at *
  generalize eB : ({ s3 with heap := pushCells (s3.heap.push { cls := .type "dict", data := .dict #[] }) scope.names } : Shared) = sB at I4 ⊢
  have st4 : tn 0 sB.heap := T.keep _ _ _ st3 fun b _ u z => by rw [← eB]; exact pushCells_keeps _ _ _ _ (Heap.get?_push_of_some _ z)
  have B := fun C => compEnvC scope cs C X.env
  have stat : ∀ {σ' : L2.St} {H' : Hp} {s' : Shared}, Inv (blkX X scope s3 H3 s3.heap.objs.size cs fp) [] σ' H' s' → (∀ b ∈ fp, H' b = none) → ∀ b ∈ fp, FpOk (blkX X scope s3 H3 s3.heap.objs.size cs fp) [] H' b := fun I' hn b hb =>
    ⟨hn b hb, (I'.ok.exf b hb).1, I'.ok.exfs b hb, .inl hb, fun x c z => (I'.ok.exf b hb).2 x c z, fun p hp => by cases (show p ∈ ([] : List (Addr × Obj)) from hp)⟩
  have loop : codeAny (model X.prog X.w) X.A (.compLoop e 0 (.ref it) (.ref A) (compEnvC scope cs s3.heap.objs.size X.env)) (compPost (model X.prog X.w) X.A X.xe none (EP X pins σ Q) (.ref A) s3.heap.objs.size) sB := by
    refine hlp it A _ _ (fun n s' => ∃ i H', Inv (blkX X scope s3 H3 s3.heap.objs.size cs fp) [] (wipe σ (own.map (·.2))) H' s' ∧ tn i s'.heap ∧ (∀ b ∈ fp, H' b = none) ∧ W i n H') sB ?_ m0 ⟨0, H3, I4, st4, nfp, w0⟩
    rintro n sC ⟨i, HC, IC, tC, mC, vC⟩
    rcases turn i n HC vC with ⟨fini, qE⟩ | ⟨go, Nx, hMx, step⟩
    · refine thnF (T.done (blkX X scope s3 H3 s3.heap.objs.size cs fp) rfl rfl rfl hc i [] sC _ HC (fun _ _ => False) IC (stat IC mC) tC fini) fun r s6 ⟨hr, I6⟩ => ?_
      subst hr
      have IG : Inv X pins σ HC s6 := h3.call' (ch := fp) I6.os I6.base I6.hok I6.bare fun b hb => ⟨(f3 b hb).1.2.2.2.1, (f3 b hb).1.2.1, (f3 b hb).1.2.2.2.2.1, (f3 b hb).1.2.2.2.2.2⟩
      have nC : HC s3.heap.objs.size = none := I6.free
      obtain ⟨m, hn, _⟩ := I6.loc
      obtain ⟨a0, a1, a2, a3, a4, a5⟩ := h3.fpOk (Nat.le_refl _) nC
      exact ⟨m, hn, fun h'' sb => ⟨.ref A, HC, IG.turned (t' := s6.toks) (fun b u hb z => (sb.2 b hb).trans z) a0 a1 a3 a4 a5, rfl, qE⟩⟩
    · refine thnF (T.item (blkX X scope s3 H3 s3.heap.objs.size cs fp) rfl rfl rfl hc i [] sC _ HC (fun _ _ => False) IC (stat IC mC) tC go) fun r s6 ⟨u, hr, h6⟩ => ?_
      subst hr
      refine thnF h6 fun _ sG ⟨x, HG, IG, rG, yG, tG, mG⟩ => ?_
      refine thnF ((hg s3 H3 s3.heap.objs.size cs fp).run _ sG _ HG x u _ (IG.pinned (stat IG mG) (T.obj _ _ tG)) rG (step x HG yG)) fun _ s8 ⟨σ8, H8, I8, hw8, q8⟩ => ?_
      refine thnF ((ht s3 H3 s3.heap.objs.size cs fp).run _ s8 σ8 H8 _ I8 q8) fun b s9 ⟨H9, I9, q9⟩ => ?_
      have fin : ∀ {s' : Shared} {H' : Hp}, Inv (blkX X scope s3 H3 s3.heap.objs.size cs fp) ([] ++ pinsAt fp sG.heap) σ8 H' s' → Nx H' → ∃ m, m < n ∧ ∃ i H', Inv (blkX X scope s3 H3 s3.heap.objs.size cs fp) [] (wipe σ (own.map (·.2))) H' s' ∧ tn i s'.heap ∧ (∀ b ∈ fp, H' b = none) ∧ W i m H' := fun I' nx => by
        obtain ⟨m', hm, w'⟩ := hMx _ nx
        have pin : ∀ b ∈ fp, ∀ u, sG.heap.get? b = some u → _ := fun b hb u z => I'.pin (b, u) (List.mem_append_right _ (List.mem_append_right _ (mem_pinsAt hb z)))
        refine ⟨m', hm, i + 1, _, (I'.unpinned (pins := [])).weak (by rw [← hw8, wipe_length]) (fun j v z => by rw [← hw8] at z; exact (wipe_some z).1), T.keep _ _ _ tG fun b hb u z => (pin b hb u z).1, fun b hb => ?_, w'⟩
        obtain ⟨u, z, _⟩ := T.obj _ _ tG b hb
        exact (pin b hb u z).2.1
      cases b with
      | false =>
        rw [if_neg Bool.false_ne_true] at q9 ⊢
        exact fin I9 q9
      | true =>
        rw [if_pos rfl] at q9 ⊢
        exact hmn _ A _ _ s9 (fun s10 ⟨H10, I10, nx⟩ => fin I10 nx) (hb s3 H3 s3.heap.objs.size cs fp A _ s9 σ8 H9 Nx I9 q9)
  exact hst it A _ _ sB loop fun E => T.self X.A 0 _ _ _ st4 loop

/-- the new dict of a comprehension -/
def iniD (K : Fg) (P : Program) (w : World) : Addr → Hp → Hp → Prop := fun A H HA => (∃ o, HA = upd H A (RawO A o)) ∧ DictAt K P w HA A []
def accD (K : Fg) (P : Program) (w : World) (tk tv : TE) : L2.St → Hp → Addr → (Hp → Prop) → Prop := fun σ H A Nx => tk σ H fun y H1 => tv σ H1 fun z H2 => setK K P w (.ref A) y z H2 Nx
theorem pe_kdc {kx vx tg iter : Expr} {ifs : List Expr} {scope : Scope} {own : List (Str × Nat)} {pos : Pos} {wi : TI} {g : TG} {tt : TT} {tk tv : TE} (hu : X.A.units + 9 < cLine) (hc : X.calm = true) (hN : X.N.Nodup) (hi : PI X tg iter wi) (ok : BlkOk X.N X.env.scope scope own)
    (hg : ∀ s H C cl fp, PG (blkX X scope s H C cl fp) tg g) (ht : ∀ s H C cl fp, PTs (blkX X scope s H C cl fp) ifs tt) (hk : ∀ s H C cl fp, PE (blkX X scope s H C cl fp) kx tk) (hv : ∀ s H C cl fp, PE (blkX X scope s H C cl fp) vx tv)
    (hs : ∀ x, foldedSetIterable iter X.env x = pure x := by intro _; rfl) : PE X (.DictComp kx vx [⟨tg, iter, ifs, 0⟩] scope pos) (tGc (iniD X.K X.prog X.w) wi g tt (accD X.K X.prog X.w tk tv) (own.map (·.2))) := by
  refine ⟨fun pins s σ H Q I h => ?_⟩
  rw [arm_eval_DictComp]
  refine gc_core (new := fun _ => { cls := .type "dict", data := .dict #[] }) (bd := fun cenv A P s => wpAny (model X.prog X.w) X.A (eval kx cenv) (fun kv sB => wpAny (model X.prog X.w) X.A (eval vx cenv) (fun vv sC => wpAny (model X.prog X.w) X.A (dictSet A kv vv) (fun _ s6 => P s6) (fun _ _ => False) sC) (fun _ _ => False) sB) (fun _ _ => False) s)
    rfl (fun s Q q => wpAny_newObj_type q) (fun s H I => ⟨RawO s.heap.objs.size { cls := .type "dict", data := .dict #[] }, ⟨⟨_, rfl⟩, ⟨_, #[], 0, [], upd_same, ⟨rfl, rfl, rfl⟩, rfl, rfl, .nil⟩, List.nodup_nil, Nat.zero_le _, beq_eq_false_iff_ne.mpr (Ne.symm (Nat.ne_of_lt I.big))⟩, fun H' => RawO.ok (Heap.get?_push_size _ rfl)⟩)
    (fun it A cenv R I s turn k hI => compLoop_anyD I (fun n s hn => ?_) k hI) (fun it A cenv R s h0 h1 => codeAny_compStart_dict h0 (h1 _)) hc hN I hi ok hg ht (fun s H C cl fp A pins s' σ' H' Nx I q => ?_) (fun cenv A P P' s hp h => ?_) hs h
  · refine thnF (turn n s hn) fun r s1 h1 => ?_
    cases r with
    | none => exact h1
    | some v =>
      refine thnF h1 fun _ s2 h2 => thnF h2 fun _ s3 h3 => thnF h3 fun ok sB h4 => ?_
      cases ok with
      | false => exact h4
      | true => exact thnF h4 fun kv sC h5 => thnF h5 fun vv s6 h6 => thnF h6 fun _ sG h7 => h7
  · refine thnF ((hk s H C cl fp).run pins s' σ' H' _ I q) fun kv s1 ⟨y, H1, I1, r1, q1⟩ => thnF ((hv s H C cl fp).run pins s1 σ' H1 _ I1 q1) fun vv s2 ⟨z, H2, I2, r2, d, kvs, k, ed, x, ⟨hk, hdp, b, eb⟩, hl, q2⟩ => ?_
    cases ed
    subst eb
    obtain rfl : kv = Value.ref b := r1
    exact d_setD (X := blkX X scope s H C cl fp) hu I2 x hk hdp r2 hl fun H3 s3 I3 e x' => ⟨H3, I3, q2 H3 e x'⟩
  · exact thnF h fun kv s1 h1 => thnF h1 fun vv s2 h2 => thnF h2 fun _ s3 h3 => hp s3 h3
/-- the new set of a comprehension, of tuples of ints -/
def iniS (P : Program) (w : World) : Addr → Hp → Hp → Prop := fun A H HA => HA = upd H A (SetTO P w A [])
def accS (K : Fg) (P : Program) (w : World) (te : TE) : L2.St → Hp → Addr → (Hp → Prop) → Prop := fun σ H A Nx => te σ H fun y H1 => ∃ (b : Addr) (k : List Int) (L : List (Addr × List Int)), y = .ref b ∧ SqT K H1 b (k.map V.int) ∧ H1 A = some (SetTO P w A L) ∧
  (∀ p ∈ L, SqT K H1 p.1 (p.2.map V.int)) ∧ L.length + 1 < 64 ∧ ∀ L', (k ∈ L.map (·.2) → L' = L) → (k ∉ L.map (·.2) → L'.Perm ((b, k) :: L)) → Nx (upd H1 A (SetTO P w A L'))
theorem s_addT {pins : List (Addr × Obj)} {s : Shared} {σ : L2.St} {H : Hp} {A : Addr} {b : Addr} {k : List Int} {L : List (Addr × List Int)} {Q : Value → Shared → Prop} {E : Value → Shared → Prop} {Ar : Around} (hu : Ar.units + 2 < cLine) (I : Inv X pins σ H s) (hk : SqT X.K H b (k.map V.int)) (hA : H A = some (SetTO X.prog X.w A L))
    (hL : ∀ p ∈ L, SqT X.K H p.1 (p.2.map V.int)) (hf : L.length + 1 < 64) (h : ∀ L' s', Inv X pins σ (upd H A (SetTO X.prog X.w A L')) s' → (k ∈ L.map (·.2) → L' = L) → (k ∉ L.map (·.2) → L'.Perm ((b, k) :: L)) → Q .none s') :
    wpAny (model X.prog X.w) Ar (call (.builtin "set.add") [.ref A, .ref b]) Q E s := by
  have R0 : SetT0 X.prog X.w s.heap A L := (I.hok A _ hA).1
  obtain ⟨es, ep, t, R⟩ := R0.full fun p hp => I.isT (hL p hp)
  obtain ⟨o, ho, hex, hd⟩ := id R.ob
  have hx : IsT X.prog X.w s.heap k b := I.isT hk
  refine wpAny_call_entry F.slot_set_add ⟨o, ho, hex.1⟩ F.entry_set_add ?_ (F.args_set_add_2 _ _)
  unfold Builtin.«set.add» Builtin.Frozenset.oneOther
  simp only [List.isEmpty_nil, bind_assoc]
  unfold Builtin.Frozenset.addrOf setAdd
  refine wpAny_bind (wpAny_pure (wpAny_bind (wpAny_pure (wpAny_bind (wpAny_holding (wpAny_bind (wpAny_pyHash_tuple (by rw [Around.in1_units]; omega) hx ?_)))))))
  refine add_at (s := { s with toks := s.toks + (k.length + 1) }) R hx (by rw [Around.in1_units]; omega) hf fun c h' L' es' ep' t' hsb R' c1 c2 => ?_
  show wpAny _ _ (ret Value.none) _ _ _
  refine wpAny_pure ⟨_, rfl, h L' _ ?_ c1 c2⟩
  have hob := R'.ob
  obtain ⟨o', ho', _⟩ := hob
  exact I.write (x := A) (e := A) (o := SetTO X.prog X.w A L') (t' := s.toks + (k.length + 1)) (by rw [hA]; exact True.intro) (.inl rfl) (fun b' u hb z => (hsb.2 b' hb).trans z) ⟨o', ho'⟩ (setTO_new R'.t0)
theorem pe_kset {kx tg iter : Expr} {ifs : List Expr} {scope : Scope} {own : List (Str × Nat)} {pos : Pos} {wi : TI} {g : TG} {tt : TT} {te : TE} (hu : X.A.units + 9 < cLine) (hc : X.calm = true) (hN : X.N.Nodup) (hi : PI X tg iter wi) (ok : BlkOk X.N X.env.scope scope own)
    (hg : ∀ s H C cl fp, PG (blkX X scope s H C cl fp) tg g) (ht : ∀ s H C cl fp, PTs (blkX X scope s H C cl fp) ifs tt) (hk : ∀ s H C cl fp, PE (blkX X scope s H C cl fp) kx te)
    (hs : ∀ x, foldedSetIterable iter X.env x = pure x := by intro _; rfl) : PE X (.SetComp kx [⟨tg, iter, ifs, 0⟩] scope pos) (tGc (iniS X.prog X.w) wi g tt (accS X.K X.prog X.w te) (own.map (·.2))) := by
  refine ⟨fun pins s σ H Q I h => ?_⟩
  rw [arm_eval_SetComp]
  refine gc_core (new := fun w => { cls := .type "set", dict := none, data := .set #[] 0 (.fresh 0 0 (!(w.params.followText "set-order"))) }) (bd := fun cenv A P s => wpAny (model X.prog X.w) X.A (eval kx cenv) (fun kv sB => wpAny (model X.prog X.w) X.A (call (.builtin "set.add") [.ref A, kv]) (fun _ s6 => P s6) (fun _ _ => False) sB) (fun _ _ => False) s)
    rfl (fun s Q q => wpAny_newSet_raw fun led e => by rw [e]; exact q) (fun s H I => ⟨SetTO X.prog X.w s.heap.objs.size [], rfl, fun H' => setTO_new (setTR_fresh (Heap.get?_push_size _ rfl)).t0⟩)
    (fun it A cenv R I s turn k hI => compLoop_set_any I (fun n s hn => ?_) k hI) (fun it A cenv R s h0 h1 => codeAny_compStart_set h0 (h1 _)) hc hN I hi ok hg ht (fun s H C cl fp A pins s' σ' H' Nx I q => ?_) (fun cenv A P P' s hp h => ?_) hs h
  · refine thnF (turn n s hn) fun r s1 h1 => ?_
    cases r with
    | none => exact h1
    | some v =>
      refine thnF h1 fun _ s2 h2 => thnF h2 fun _ s3 h3 => thnF h3 fun ok sB h4 => ?_
      cases ok with
      | false => exact h4
      | true => exact thnF h4 fun kv sC h5 => thnF h5 fun vv s6 h6 => h6
  · refine thnF ((hk s H C cl fp).run pins s' σ' H' _ I q) fun kv s1 ⟨y, H1, I1, r1, b, k, L, eb, sb, hA, hL, hf, q1⟩ => ?_
    subst eb
    obtain rfl : kv = Value.ref b := r1
    exact s_addT (X := blkX X scope s H C cl fp) (by show X.A.units + 2 < cLine; omega) I1 sb hA hL hf fun L' s2 I2 c1 c2 => ⟨_, I2, q1 L' c1 c2⟩
  · exact thnF h fun kv s1 h1 => thnF h1 fun vv s2 h2 => hp s2 h2
/-- len(a set) -/
def rLenT (P : Program) (w : World) : List V → Hp → VK → Prop := fun xs H Q => ∃ (A : Addr) (L : List (Addr × List Int)), xs = [.ref A] ∧ H A = some (SetTO P w A L) ∧ Q (.int (L.length : Nat)) H
theorem call_lenT : CallR X (.builtin "len") (rLenT X.prog X.w) := by
  intro pins s σ H xs us Q I r h
  obtain ⟨A, L, e, hA, q⟩ := h
  subst e
  obtain rfl := Vals.ref1 r
  obtain ⟨es, ep, t, ⟨o, ho, hex, hd⟩, h2, h3, h4, h5, h6, h7, h8⟩ := SetT0.ex (I.hok A _ hA).1
  have hsz : es.size = L.length := by
    have z := congrArg List.length h2
    unfold rowsOf at z
    rw [Array.length_toList, List.length_map] at z
    exact z
  have hf : t.fits es.size = true := by
    have h1 := h3.sz
    rw [List.length_map] at h1
    unfold SetTable.fits SetTable.fill
    rw [h3.dm, Bool.and_eq_true, beq_iff_eq, decide_eq_true_eq]
    show t.place.size = es.size ∧ t.place.size + 0 ≤ t.mask
    omega
  exact call_len_set ho hex hd hf (by omega) ⟨.int (L.length : Nat), H, I.tok _, ⟨_, by rw [hsz]⟩, q⟩
end
end K20
namespace K20
open PySem PySem.Spec PyProof.Rows L2

/-! ### tuples of ints, sorted -/
/-- a tuple of ints -/
def tI (k : List Int) : D := .tup (k.map NestedKey.num)
theorem datas_num : ∀ k : List Int, NestedKey.datas (k.map NestedKey.num) = k.map PyData.int
  | [] => rfl
  | i :: k => by
    show PyData.int i :: NestedKey.datas (k.map NestedKey.num) = _
    rw [datas_num k]
    rfl
theorem tI_data (k : List Int) : (tI k).data = .tuple (k.map PyData.int) := congrArg PyData.tuple (datas_num k)
theorem tI_inj {k l : List Int} (h : tI k = tI l) : k = l := by
  have e : k.map NestedKey.num = l.map NestedKey.num := NestedKey.tup.inj h
  exact List.map_inj_right (fun x y z => NestedKey.num.inj z) |>.mp e
theorem plain_ints : ∀ k : List Int, plainL (k.map NestedKey.num) = true
  | [] => rfl
  | i :: k => by
    show (plainD (.num i) && plainL (k.map NestedKey.num)) = true
    rw [plain_ints k]
    rfl
theorem dep_ints : ∀ k : List Int, NestedKey.depthAll (k.map NestedKey.num) = 0
  | [] => rfl
  | i :: k => by
    show max (NestedKey.depth (.num i)) (NestedKey.depthAll (k.map NestedKey.num)) = 0
    rw [dep_ints k]
    rfl
theorem tI_depth (k : List Int) : (tI k).depth = 1 := by
  show NestedKey.depthAll (k.map NestedKey.num) + 1 = 1
  rw [dep_ints]
theorem tI_ok (k : List Int) : okD (tI k) = true := by
  unfold okD
  rw [tI_depth]
  show (plainL (k.map NestedKey.num) && true) = true
  rw [plain_ints]
  rfl
def leI (b : Bool) : List Int → List Int → Bool := PySem.W.dataLe b fun k => (tI k).data
def sortI (b : Bool) (ks : List (List Int)) : List (List Int) := ks.mergeSort (leI b)
theorem tI_alike {ks : List (List Int)} : PySem.W.AllAlike (ks.map fun k => (tI k).data) := PySem.W.AllAlike.of fun k l => by
  rw [tI_data, tI_data]
  show PySem.W.alikeAll (k.map PyData.int) (l.map PyData.int) = true
  exact PySem.W.alike_ints k l
theorem tI_sortable {ks : List (List Int)} (h : ∀ k ∈ ks, k ≠ []) : PySem.W.Sortable (ks.map fun k => (tI k).data) := .inl fun d hd => by
  obtain ⟨k, hk, rfl⟩ := List.mem_map.mp hd
  cases k with
  | nil => exact absurd rfl (h _ hk)
  | cons i k => exact ⟨_, _, tI_data _⟩
/-- these stand for these -/
theorem each_pair {K : Fg} {H : Hp} : ∀ {us : List Value} {ks : List (List Int)}, PySem.W.EachIs (fun u k => ∃ a, u = .ref a ∧ Dt K H (.ref a) (tI k)) us ks → ∃ vs, Vals vs us ∧ Paired (fun v k => Dt K H v (tI k)) vs ks
  | _, _, .nil => ⟨[], .nil, .nil⟩
  | _, _, .cons ⟨a, e, d⟩ t => by
    obtain ⟨vs, h1, h2⟩ := each_pair t
    subst e
    exact ⟨.ref a :: vs, .cons rfl h1, .cons d h2⟩
theorem pair_each {K : Fg} {H : Hp} : ∀ {vs : List V} {us : List Value} {ks : List (List Int)}, Vals vs us → Paired (fun v k => Dt K H v (tI k)) vs ks → PySem.W.EachIs (fun u k => ∃ a, u = .ref a ∧ Dt K H (.ref a) (tI k)) us ks
  | _, _, _, .nil, .nil => .nil
  | _, _, _, .cons r rs, .cons d ds => by
    obtain ⟨a, xs, e, _, _⟩ := d.tup_inv
    subst e
    exact .cons ⟨a, r, d⟩ (pair_each rs ds)
theorem each_impl {α β : Type} {R S : α → β → Prop} (h : ∀ a b, R a b → S a b) : ∀ {as : List α} {bs : List β}, PySem.W.EachIs R as bs → PySem.W.EachIs S as bs
  | _, _, .nil => .nil
  | _, _, .cons a t => .cons (h _ _ a) (each_impl h t)
section
variable {X : Cx}
/-- sorted(xs), sorted(xs, reverse=True): tuples of ints -/
def rSortT (K : Fg) (b : Bool) : List V → Hp → VK → Prop := fun xs H Q => ∃ (a : Addr) (ys : List V) (ks : List (List Int)), xs = [.ref a] ∧ SqL K H a ys ∧ Paired (fun v k => Dt K H v (tI k)) ys ks ∧ (∀ k ∈ ks, k ≠ []) ∧
  ∀ p, H p = none → ∀ zs, Paired (fun v k => Dt K H v (tI k)) zs (sortI b ks) → Q (.ref p) (upd H p (.lst zs))
theorem sortT_fin {pins : List (Addr × Obj)} {σ : L2.St} {H : Hp} {s : Shared} {us : List Value} {ys : List V} {ks : List (List Int)} {b : Bool} {Q : VK} (I : Inv X pins σ H s) (rv : Vals ys us) (hp : Paired (fun v k => Dt X.K H v (tI k)) ys ks) (hz : us.length ≤ sizeLine)
    (q : ∀ p, H p = none → ∀ zs, Paired (fun v k => Dt X.K H v (tI k)) zs (sortI b ks) → Q (.ref p) (upd H p (.lst zs))) (out : List Value) (hl : out.length = ks.length) (he : PySem.W.EachIs (fun u k => ∃ a, u = Value.ref a ∧ Dt X.K H (.ref a) (tI k)) out (ks.mergeSort (leI b))) :
    EP X pins σ Q (.ref (s.heap.objs.size + 1)) { s with heap := sortedAll s.heap us (List.toArray out) } := by
  obtain ⟨zs, h1, h2⟩ := each_pair he
  obtain ⟨ep, he'⟩ := PyProof.Rows.sortedAll_at s.heap us (List.toArray out)
  have hk : us.length = ks.length := by rw [← rv.length, hp.length]
  exact ⟨.ref _, upd H (s.heap.objs.size + 1) (.lst zs), I.laid (t' := s.toks) (fun _ _ => PyProof.Rows.sortedAll_old) (Nat.le_succ _) ⟨by rw [h1.length, hl, ← hk]; exact hz, _, ep, h1, he'⟩, rfl, q _ (I.hok.fresh (Nat.le_succ _)) zs h2⟩
theorem reads_of {pins : List (Addr × Obj)} {σ : L2.St} {H : Hp} {s : Shared} {us : List Value} {ks : List (List Int)} (I : Inv X pins σ H s) (he : PySem.W.EachIs (fun u k => ∃ a, u = Value.ref a ∧ Dt X.K H (.ref a) (tI k)) us ks) :
    PySem.W.EachIs (fun u k => ∃ as, Reads s.heap u (tI k).data as) us ks := each_impl (fun u k ⟨a, e, d⟩ => ⟨[], d.reads I _ e⟩) he
theorem cr_sortT (hu : X.A.units + 9 < cLine) : CallR X (.builtin "sorted") (rSortT X.K false) := by
  intro pins s σ H xs us Q I r h
  obtain ⟨a, ys, ks, rfl, hs, hp, hne, q⟩ := h
  obtain rfl := Vals.ref1 r
  obtain ⟨its, rv, hl, hz⟩ := I.list hs
  have he := pair_each rv hp
  exact PySem.W.sorted_data hl.isList he (reads_of I he) tI_alike (tI_sortable hne) (by rw [← he.length, ← rv.length]; exact hz) (fun k _ => by rw [depth_data, tI_depth]; omega) fun out h1 h2 => sortT_fin I rv hp (by rw [← rv.length]; exact hz) q out h1 h2
theorem cr_sortTR (hu : X.A.units + 9 < cLine) : CallRK X (.builtin "sorted") [Str.ofString "reverse"] (fun xs zs H Q => zs = [.bl true] ∧ rSortT X.K true xs H Q) := by
  intro pins s σ H xs zs us ws Q I r rz h
  obtain ⟨rfl, a, ys, ks, rfl, hs, hp, hne, q⟩ := h
  obtain rfl := Vals.ref1 r
  cases rz with
  | cons e t =>
    cases t
    obtain rfl : _ = Value.bool true := e
    obtain ⟨its, rv, hl, hz⟩ := I.list hs
    have he := pair_each rv hp
    exact PySem.W.sorted_rev_data hl.isList he (reads_of I he) tI_alike (tI_sortable hne) (by rw [← he.length, ← rv.length]; exact hz) (fun k _ => by rw [depth_data, tI_depth]; omega) fun out h1 h2 => sortT_fin I rv hp (by rw [← rv.length]; exact hz) q out h1 h2
end
end K20
namespace K20
open PySem PySem.Spec PyProof.Rows L2

/-! ### sorted(xs, key=lambda one: ..) -/
/-- the end of a step in a key's lambda: all is kept -/
def KpD (s : Shared) (p : Value → Heap → Prop) : Value → Shared → Prop := fun v s' => ∃ h' tk, s' = { s with heap := h', toks := tk } ∧ (∀ b o, s.heap.get? b = some o → h'.get? b = some o) ∧ p v h'
section
variable {X : Cx} {β : Type}
/-- what the lambda's body does for b -/
def LamBody (X : Cx) (scope : Scope) (body : Expr) (arg : Str) (key : L2.St → Hp → Addr → β → Prop) (kf : β → List Int) : Prop :=
  ∀ (A' : Around) (pins : List (Addr × Obj)) (σ : L2.St) (s : Shared) (H : Hp) (f c' L : Addr) (r : Addr) (b : β), A'.handled = none → A'.units + 40 < cLine → Inv X pins σ H s → key σ H r b →
    s.heap.Ns L (fun y => [(arg, Value.ref r)].reverse.lookup y) → wpAny (model X.prog X.w) A' (eval body (LamX.lamEnv X scope L f c')) (KpD s fun v h' => Reads h' v (tI (kf b)).data []) (fun _ _ => False) s
def tSortK (K : Fg) (T : List (Addr × Str)) (te : TE) (key : (β → List Int) → L2.St → Hp → Addr → β → Prop) : TE := fun σ H Q => te σ H fun x H1 => LamX.Tabs T H1 ∧ ∀ H2, LamX.ExtN H1 H2 → LamX.Tabs T H2 →
  ∃ (kf : β → List Int) (a : Addr) (ys : List V) (bs : List β), x = .ref a ∧ SqL K H2 a ys ∧ Paired (fun v b => ∃ r, v = .ref r ∧ key kf σ H2 r b) ys bs ∧ (∀ b ∈ bs, kf b ≠ []) ∧
    ∀ p, H2 p = none → ∀ zs, Paired (fun v b => ∃ r, v = .ref r ∧ key kf σ H2 r b) zs (bs.mergeSort (PySem.W.dataLe false fun b => (tI (kf b)).data)) → Q (.ref p) (upd H2 p (.lst zs))
theorem pair_eachK {key : Addr → β → Prop} : ∀ {vs : List V} {us : List Value} {ks : List β}, Vals vs us → Paired (fun v k => ∃ r, v = .ref r ∧ key r k) vs ks → PySem.W.EachIs (fun u k => ∃ a, u = .ref a ∧ key a k) us ks
  | _, _, _, .nil, .nil => .nil
  | _, _, _, .cons r rs, .cons ⟨a, e, d⟩ ds => by
    subst e
    exact .cons ⟨a, r, d⟩ (pair_eachK rs ds)
theorem each_pairK {key : Addr → β → Prop} : ∀ {us : List Value} {ks : List β}, PySem.W.EachIs (fun u k => ∃ a, u = .ref a ∧ key a k) us ks → ∃ vs, Vals vs us ∧ Paired (fun v k => ∃ r, v = .ref r ∧ key r k) vs ks
  | _, _, .nil => ⟨[], .nil, .nil⟩
  | _, _, .cons ⟨a, e, d⟩ t => by
    obtain ⟨vs, h1, h2⟩ := each_pairK t
    subst e
    exact ⟨.ref a :: vs, .cons rfl h1, .cons ⟨a, rfl, d⟩ h2⟩
def freeB (sc scope : Scope) : Bool := scope.names.all fun y => !decide (y.2 = .free) || decide (sc.names.lookup y.1 = some .cell)
theorem LamBody.imp {scope : Scope} {body : Expr} {arg : Str} {key key' : L2.St → Hp → Addr → β → Prop} {kf : β → List Int} (i : ∀ σ H r b, key' σ H r b → key σ H r b) (h : LamBody X scope body arg key kf) : LamBody X scope body arg key' kf :=
  fun A' pins σ s H f c' L r b h1 h2 I hk hn => h A' pins σ s H f c' L r b h1 h2 I (i _ _ _ _ hk) hn
theorem pe_sortKey {e : Expr} {te : TE} {T : List (Addr × Str)} {c P : Addr} {params : Arguments} {body : Expr} {scope : Scope} {p lpos kpos pos : Pos} {arg : Str} {key : (β → List Int) → L2.St → Hp → Addr → β → Prop} {k : Nat}
    (hr : Room k X.A) (hg : Gl X "sorted") (hm : X.mg "sorted" = none) (he : PE X e te) (TB : LamX.TabB X.base X.mg c P) (hcode : X.env.code = .ref c) (hmT : (P, X.env.qual ++ "<lambda>") ∈ T) (hu : ∀ p ∈ T, p.1 = P → p.2 = X.env.qual ++ "<lambda>")
    (hfr : freeB X.env.scope scope = true) (hdef : defaultsOf params X.env = ([], [])) (hk : scope.kind = .function) (hco : scope.isCoroutine = false) (hgen : scope.isGenerator = false) (hcell : ∀ x ∈ scope.names, x.2 ≠ .cell) (harg : scope.names.lookup arg = some .local)
    (hbind : ∀ (q : Str) (cl : List (Str × Addr)) (pm cv ctv v : Value), bindArgs (PySem.W.kla_fn "<lambda>" q params body scope cl pm cv ctv) ⟨[v], []⟩ = pure [(arg, v)])
    (hb : ∀ kf, LamBody X scope body arg (key kf) kf)
    (h1 : backTo pos (starEach [e] X.env) = (false, eval e X.env) :: backTo pos (starEach [] X.env) := by rfl) (h2 : (backTo pos (starEach [e] X.env)).any (·.1) = false := by rfl) :
    PE X (.Call (.Name "sorted" p) [e] [⟨some "key", .Lambda params body scope lpos, kpos⟩] pos) (tSortK X.K T te key) := by
  refine ⟨fun pins s σ H Q I h => ?_⟩
  have hfree : ∀ y ∈ scope.names, y.2 = .free → ∃ c, X.env.cells.lookup y.1 = some c := fun y hy e => I.ok.has _ (.inl (by
    have z := List.all_eq_true.mp hfr y hy
    rw [decide_eq_true e] at z
    have z2 : X.env.scope.names.lookup y.1 = some .cell := by simpa using z
    exact z2))
  have hv : bootBuiltins "sorted" = some (.builtin "sorted") := by decide +kernel
  refine wpAny_Call_Name_kw (ld_blt I hg hm hv ?_)
  refine PyProof.Rows.callWith_kw ?_ h1 h2
  rw [h1]
  refine Calls.spliced_cons (thn (he.run pins s σ H _ I h) fun u s1 ⟨x, H1, I1, rx, hT, q⟩ => Calls.spliced_nil ?_)
  show wpAny _ _ (evalAll [do let v ← eval (.Lambda params body scope lpos) X.env; standAt pos; pure v]) _ _ s1
  refine wpAny_evalAll_cons (wpAny_bind (LamX.lam_make2 I1 TB hcode hmT hu hT hdef hfree fun f c' pm ctv H2 s2 I2 eN T2 hf hfn hfr hc' => wpAny_bind (wpAny_standAt (wpAny_pure (wpAny_evalAll_nil ?_)))))
  obtain ⟨kf, a, ys, bs, ex, hsq, hp, hne, qq⟩ := q H2 eN T2
  subst ex
  obtain rfl : u = Value.ref a := rx
  obtain ⟨its, rv, hl, hz⟩ := I2.list hsq
  have hei := pair_eachK rv hp
  have hlen : bs.length ≤ sizeLine := by rw [← hei.length, ← rv.length]; exact hz
  obtain ⟨⟨oc, vsc, tq, hoc, hdc, hvc⟩, _, _⟩ := I2.hok c' _ hc'
  refine PySem.W.sorted_key_data (fun b => (tI (kf b)).data) hl.isList hei (PySem.W.AllAlike.of fun x y => ?_) (.inl fun d hd => ?_) hlen (fun x _ => ?_) (ksk_s1 _ _) (fun _ => ksk_l1 _ _) (fun _ => ksk_t1 _ _) (fun v b hvb hbm h3 tk3 kp => ?_) fun out n h3 tk kp hnew hget hol heo => ?_
  · rw [tI_data, tI_data]
    show PySem.W.alikeAll ((kf x).map PyData.int) ((kf y).map PyData.int) = true
    exact PySem.W.alike_ints _ _
  · obtain ⟨b, hb, rfl⟩ := List.mem_map.mp hd
    cases hkb : kf b with
    | nil => exact absurd hkb (hne _ hb)
    | cons i l => exact ⟨_, _, tI_data _⟩
  · rw [depth_data, tI_depth]
    have := hr.un
    omega
  · obtain ⟨r, rfl, hkr⟩ := hvb
    have I3 : Inv X pins σ H2 { s2 with heap := h3, toks := tk3 } := I2.kept kp
    refine wpAny_call (PySem.W.kla_callFunE (by have := hr.dp; show X.A.depth < _; omega) (kp _ _ hf) rfl hco hgen rfl ⟨c', oc, vsc, tq, rfl, kp _ _ hoc, hdc, hvc⟩ ?_)
    rw [hbind]
    refine wpAny_pure (wpAny_newFunctionEnv hcell (fun y hy => ?_) (fun h₁ hns hsb => ⟨I3.nolimit.fresh _ hsb, ?_⟩) hk)
    · obtain rfl := List.mem_singleton.mp hy
      exact harg
    · have kp1 : ∀ b o, h3.get? b = some o → h₁.get? b = some o := fun b o e => hsb.extBut b o (Nat.ne_of_lt (Heap.lt_size e)) (Heap.get?_push_of_some _ e)
      have I4 : Inv X pins σ H2 { s2 with heap := h₁, toks := tk3 + [(arg, Value.ref r)].length } := I2.kept fun b o e => kp1 b o (kp b o e)
      show codeAny _ _ (.expr body (LamX.lamEnv X scope h3.objs.size f c')) _ _
      refine PySem.W.kla_codeExpr (wpAny_mono (hb kf _ pins σ _ H2 f c' h3.objs.size r b hr.hd ?_ I4 hkr hns) (fun v s' hq => ?_) fun _ _ hF => hF.elim)
      · have := hr.un
        show X.A.units + 1 + 1 + 3 + 40 < cLine
        omega
      · obtain ⟨h4, tk4, rfl, kp4, hrd⟩ := hq
        exact ⟨h4, tk4, rfl, fun b o e => kp4 b o (kp1 b o e), hrd⟩
  · obtain ⟨zs, hz1, hz2⟩ := each_pairK heo
    exact ⟨.ref _, upd H2 (s2.heap.objs.size + 1) (.lst zs), I2.laid (t' := tk) kp (Nat.le_succ _) ⟨by rw [hz1.length, hol]; exact hlen, _, n, hz1, hget⟩, rfl, qq _ (I2.hok.fresh (Nat.le_succ _)) zs hz2⟩
end
/-! the bodies -/
theorem kp_pair {X : Cx} {A : Around} {env : Env} {s : Shared} {e1 e2 : Expr} {x1 : Nat} {pos : Pos} {i j : Int} (h1 : wpAny (model X.prog X.w) A (eval e1 env) (KpD s fun v _ => ∃ t, v = .int i t) (fun _ _ => False) s)
    (h2 : ∀ h' tk, (∀ b o, s.heap.get? b = some o → h'.get? b = some o) → wpAny (model X.prog X.w) A (eval e2 env) (KpD { s with heap := h', toks := tk } fun v _ => ∃ t, v = .int j t) (fun _ _ => False) { s with heap := h', toks := tk })
    (hb : backTo pos (starEach [e1, e2] env) = [(false, eval e1 env), (false, eval e2 env)]) :
    wpAny (model X.prog X.w) A (eval (.Tuple [e1, e2] x1 pos) env) (KpD s fun v h' => Reads h' v (tI [i, j]).data []) (fun _ _ => False) s := by
  refine wpAny_Tuple_spliced ?_
  rw [hb]
  refine Calls.spliced_cons (thn h1 fun u s1 ⟨h', tk, e1, k1, t1, eu⟩ => ?_)
  subst e1 eu
  refine Calls.spliced_cons (thn (h2 h' tk k1) fun u s2 ⟨h'', tk2, e2, k2, t2, eu⟩ => Calls.spliced_nil ⟨by show 2 ≤ sizeLine; decide, ?_⟩)
  subst e2 eu
  refine ⟨_, _, rfl, fun b o e => Heap.get?_push_of_some _ (k2 b o (k1 b o e)), ?_⟩
  rw [tI_data]
  exact .tuple (Heap.get?_push_size _ rfl) rfl rfl (ReadsAll.cons (as := []) (bs := []) (.int _ _) (ReadsAll.cons (as := []) (bs := []) (.int _ _) .nil))
section
variable {X : Cx} {pins : List (Addr × Obj)} {σ : L2.St} {s : Shared} {H : Hp} {A : Around} {env : Env}
/-- o[i], a tuple's item -/
theorem kp_item {o : Expr} {i : Nat} {j : Nat} {a : Addr} {xs : List V} {v : V} {pos ppos : Pos} {Q : Value → Shared → Prop} (hA : ∀ Q' : Value → Shared → Prop, Q' (.ref a) s → wpAny (model X.prog X.w) A (eval o env) Q' (fun _ _ => False) s) (I : Inv X pins σ H s) (hs : SqT X.K H a xs) (he : xs[i]? = some v)
    (h : ∀ u tk, RelV v u → Q u { s with toks := tk }) : wpAny (model X.prog X.w) A (eval (.Subscript o (.Constant (.int (i : Int)) j ppos) pos) env) Q (fun _ _ => False) s := by
  refine Subscript_ (hA _ (wpAny_Constant_int ?_))
  obtain ⟨its, r, pl, hz⟩ := I.tuple hs
  obtain ⟨w, ew, rw'⟩ := r.get he
  have hl := r.length
  have hn := line63
  have hi : i < its.length := (List.getElem?_eq_some_iff.mp ew).1
  refine subscriptTail_builtinR (x := w) pl.typeIs slot_tuple_getitem.lookup (getItem_tuple (s := { s with toks := s.toks + 1 }) (j := i) (Q := fun r s' => r = w ∧ Q r s') pl ?_ ?_ ?_ (by simpa using ew) ⟨rfl, h _ _ rw'⟩) (by rfl)
  · omega
  · have : (i : Int) < sizeLine + 1 := by omega
    omega
  · rw [List.size_toArray]
    have e1 : ¬ (i : Int) < 0 := by omega
    have e2 : 0 ≤ (i : Int) ∧ (i : Int) < its.length := by omega
    unfold seqIndex?
    simp [e1, e2.1, hi]
theorem kp_loc {x : Str} {p : Pos} {L : Addr} {u : Value} {Q : Value → Shared → Prop} (hk : env.scope.kind = .function) (hx : env.kindOf x = some .local) (hL : env.locals = L) (hn : s.heap.Ns L fun y => [(x, u)].reverse.lookup y) (h : Q u s)
    (hd : (x == ("__debug__" : Str)) = false := by decide) : wpAny (model X.prog X.w) A (eval (.Name x p) env) Q (fun _ _ => False) s := by
  subst hL
  exact wpAny_Name (wpAny_loadName_local hk hx hn (by simp) h) hd
theorem kp_blt {x : Str} {p : Pos} {u : Value} {Q : Value → Shared → Prop} (I : Inv X pins σ H s) (hk : env.scope.kind = .function) (hx : env.kindOf x = some .globalImplicit) (hg : env.globals = mainGlobals) (hb : env.builtins = builtinsNs) (hm : X.mg x = none) (hv : bootBuiltins x = some u) (h : Q u s)
    (hn : x ≠ "__name__" := by decide) (hd : (x == ("__debug__" : Str)) = false := by decide) : wpAny (model X.prog X.w) A (eval (.Name x p) env) Q (fun _ _ => False) s := by
  obtain ⟨mb, h1, h2⟩ := I.mod.blt
  exact Calls.Name_function_global hk hx (Calls.loadGlobal_builtin (by rw [hg]; exact I.mod.glob.keeps I.bk) hm (by rw [hb]; exact h1.keeps I.bk) ((h2 x hn).trans hv) h) hd
/-- what the first lambda's key asks -/
def keySum (X : Cx) {β : Type} (kf : β → List Int) : L2.St → Hp → Addr → β → Prop := fun _ H r b => ∃ (xs : List V) (t : Addr) (ns : List Int) (h : Int), SqT X.K H r xs ∧ xs[2]? = some (.ref t) ∧ SqT X.K H t (ns.map V.int) ∧ xs[0]? = some (.int h) ∧ kf b = [ns.sum, h]
theorem body_sum {β : Type} {kf : β → List Int} {scope : Scope} {p1 p2 p3 p4 p5 p6 p7 p8 p9 : Pos} {j2 j7 x1 : Nat} (hk : scope.kind = .function) (h1 : scope.names.lookup ("one" : Str) = some .local) (h2 : scope.names.lookup ("sum" : Str) = some .globalImplicit) (hm : X.mg "sum" = none) :
    LamBody X scope (.Tuple [.Call (.Name "sum" p1) [.Subscript (.Name "one" p2) (.Constant (.int 2) j2 p3) p4] [] p5, .Subscript (.Name "one" p6) (.Constant (.int 0) j7 p7) p8] x1 p9) "one" (keySum X kf) kf := by
  intro A' pins σ s H f c' L r b hh hu I hkey hns
  obtain ⟨xs, t, ns, h, hs, e2, ht, e0, ekf⟩ := hkey
  rw [ekf]
  refine kp_pair ?_ (fun h' tk kp => ?_) rfl
  · have hv : bootBuiltins "sum" = some (.builtin "sum") := by decide +kernel
    refine wpAny_Call_Name_kw (kp_blt I hk h2 rfl rfl hm hv ?_)
    refine PyProof.Rows.callWith_builtin1 (Calls.spliced_cons (kp_item (i := 2) (fun Q' q => kp_loc hk h1 rfl hns q) I hs e2 fun u tk ru => Calls.spliced_nil ?_)) rfl rfl
    obtain rfl : u = Value.ref t := ru
    obtain ⟨its, rv, pl, hz⟩ := I.tuple ht
    have hi := rv.ints
    obtain ⟨ys, e⟩ := hi.allInts.items
    have hn : numsOf (intItems ys).toList = ns := by rw [← e]; exact hi.numsOf
    rw [nums_intItems] at hn
    rw [e] at pl
    refine PySem.W.ktm_sumG (s := { s with toks := tk }) hh pl fun h' tk t' hk => ?_
    rw [preSum_eq, List.take_of_length_le (by simp)]
    rw [hn]
    exact ⟨h', tk, rfl, hk, _, rfl⟩
  · refine kp_item (i := 0) (fun Q' q => kp_loc hk h1 rfl (hns.keeps kp) q) (I.kept kp) hs e0 fun u tk' ru => ?_
    obtain ⟨t', rfl⟩ := ru
    exact ⟨h', tk', rfl, fun _ _ e => e, _, rfl⟩
/-- what the second one's asks -/
def keyTime (X : Cx) {β : Type} (i : Nat) (kf : β → List Int) : L2.St → Hp → Addr → β → Prop := fun σ H r b => ∃ (xs : List V) (p C dx : Addr) (fs : List (Str × V)) (d : Addr) (kvs : List (D × V)) (k : D) (t h : Int), SqT X.K H r xs ∧ xs[0]? = some (.int h) ∧ σ[i]? = some (some (.ref p)) ∧ H p = some (.ins C dx fs) ∧ Cls X.K C ∧ NoAttr X.K C "time" ∧ fs.lookup ("time" : Str) = some (.ref d) ∧
  DictAt X.K X.prog X.w H d kvs ∧ Dt X.K H (.ref r) k ∧ k.depth ≤ 8 ∧ valV kvs k = some (.int t) ∧ kf b = [t, h]
theorem body_time {β : Type} {i : Nat} {kf : β → List Int} {scope : Scope} {p1 p2 p3 p4 p6 p7 p8 p9 : Pos} {j7 x1 : Nat} (hk : scope.kind = .function) (h1 : scope.names.lookup ("one" : Str) = some .local) (h2 : scope.names.lookup ("self" : Str) = some .free) (hN : X.N[i]? = some "self") (hvis : X.env.scope.names.lookup ("self" : Str) = some .cell)
    (hcl : ∀ cells : List (Str × Addr), cloFrom cells scope.names [] = [(("self" : Str), (cells.lookup ("self" : Str)).getD 0)]) :
    LamBody X scope (.Tuple [.Subscript (.Attribute (.Name "self" p1) "time" p2) (.Name "one" p3) p4, .Subscript (.Name "one" p6) (.Constant (.int 0) j7 p7) p8] x1 p9) "one" (keyTime X i kf) kf := by
  intro A' pins σ s H f c' L r b hh hu I hkey hns
  obtain ⟨xs, p, C, dx, fs, d, kvs, k, t, h, hs, e0, eσ, hp, hC, hN2, hl, hd, hkd, hdp, hvk, ekf⟩ := hkey
  rw [ekf]
  refine kp_pair ?_ (fun h' tk kp => ?_) rfl
  · refine subD_of PySem.F.slot_dict_getitem.lookup (fun _ _ => rfl) (attr_of rfl ?_)
    obtain ⟨m, hn, hlo⟩ := I.loc
    obtain ⟨u, ru, lo⟩ := hlo i "self" _ hN eσ (.inr (.inl hvis))
    obtain rfl : u = Value.ref p := ru
    rcases lo with ⟨k', _⟩ | ⟨_, c, hc, hcell⟩
    · rw [show X.env.kindOf "self" = some .cell from hvis] at k'
      cases k'
    · refine wpAny_Name (wpAny_loadName_free (c := c) hk h2 ?_ hcell ?_) (by decide)
      · show (cloFrom X.env.cells scope.names []).lookup ("self" : Str) = some c
        rw [hcl, hc]
        rfl
      · obtain ⟨mA, O, r', _, _, _⟩ := ins_get I.hok hp
        obtain ⟨u', hu', ru'⟩ := RelO.some_of (v := V.ref d) (o := mA "time") (by rw [← hl]; exact r' "time")
        obtain rfl : u' = Value.ref d := ru'
        refine get_map I.kIn O (hC.get "time") hC.hd hN2 hu' (handed_of (v := V.ref d) rfl) ?_
        refine kp_loc (s := { s with toks := s.toks + 1 }) hk h1 rfl hns ?_
        obtain ⟨ys, hm, pv, all, hlen⟩ := hd.heap (I.tok (s.toks + 1))
        obtain ⟨w', hw, rw'⟩ := RelO.some_of (v := .int t) (o := valueAt (pairsH ys) k) (by rw [← hvk]; exact kv_val pv k)
        rw [valueAt_pairsH] at hw
        obtain ⟨q, hq, hq2⟩ := Option.map_eq_some_iff.mp hw
        refine ⟨hm.typeIs, wpAny_getItem_heap (knd := NK X.prog X.w) (s := { s with toks := s.toks + 1 }) (by show A'.in1.units + 8 < cLine; rw [Around.in1_units]; omega) (key_is I hkd hdp) hm hq ?_⟩
        rw [hq2]
        obtain ⟨t', rfl⟩ := rw'
        exact ⟨s.heap, _, rfl, fun _ _ e => e, _, rfl⟩
  · refine kp_item (i := 0) (fun Q' q => kp_loc hk h1 rfl (hns.keeps kp) q) (I.kept kp) hs e0 fun u tk' ru => ?_
    obtain ⟨t', rfl⟩ := ru
    exact ⟨h', tk', rfl, fun _ _ e => e, _, rfl⟩
end
end K20
namespace K20
open PySem PySem.Spec PyProof.Rows L2

/-! ### one rule a sign, whatever stands there -/
section
variable {X : Cx}
theorem orR {f : Value → Value → Sem Value} {r r' : R2} (a : OpR X f r) (b : OpR X f r') : OpR X f (fun x y H Q => r x y H Q ∨ r' x y H Q) := by
  intro pins s σ H x y v u Q I rx ry h
  rcases h with h | h
  · exact a pins s σ H x y v u Q I rx ry h
  · exact b pins s σ H x y v u Q I rx ry h
theorem orC {f : Value} {r r' : List V → Hp → VK → Prop} (a : CallR X f r) (b : CallR X f r') : CallR X f (fun xs H Q => r xs H Q ∨ r' xs H Q) := by
  intro pins s σ H xs us Q I r0 h
  rcases h with h | h
  · exact a pins s σ H xs us Q I r0 h
  · exact b pins s σ H xs us Q I r0 h
/-- + : ints, lists, tuples -/
def rPlus (K : Fg) : R2 := fun x y H Q => rI0 (fun i j => .int (i + j)) x y H Q ∨ rCat x y H Q ∨ rCatT K x y H Q
theorem op_plus : OpR X (binaryOp .Add) (rPlus X.K) := orR op_add (orR op_cat op_catT)
/-- len: lists, tuples, texts, sets, dicts -/
def rLenU (K : Fg) (P : Program) (w : World) : List V → Hp → VK → Prop := fun xs H Q => rLenS K xs H Q ∨ (∃ z, xs = [.str z] ∧ z.length ≤ sizeLine ∧ Q (.int z.length) H) ∨ rLenT P w xs H Q ∨ (∃ a kvs, xs = [V.ref a] ∧ DictAt K P w H a kvs ∧ Q (.int (kvs.length : Nat)) H)
theorem call_lenK : CallR X (.builtin "len") (fun xs H Q => ∃ a kvs, xs = [V.ref a] ∧ DictAt X.K X.prog X.w H a kvs ∧ Q (.int (kvs.length : Nat)) H) := by
  intro pins s σ H xs us Q I r h
  obtain ⟨a, kvs, e, hd, q⟩ := h
  subst e
  obtain rfl := Vals.ref1 r
  obtain ⟨ys, hm, pv, all, hlen⟩ := hd.heap I
  have hz := hd.len
  refine PySem.call_len_dictH (knd := NK X.prog X.w) hd.nm hm (by rw [hlen]; have := line63; omega) ?_
  rw [hlen]
  exact ⟨.int (kvs.length : Nat), H, I.tok _, ⟨_, rfl⟩, q⟩
theorem call_lenU : CallR X (.builtin "len") (rLenU X.K X.prog X.w) := orC call_len_seq (orC call_len_str (orC call_lenT call_lenK))
/-- o[i]: a tuple, a list, a dict with data for keys, one with texts -/
def rKG (K : Fg) (P : Program) (w : World) : R2 := fun x y H Q => ∃ a kvs k v, x = .ref a ∧ DictAt K P w H a kvs ∧ KeyV K H y k ∧ valV kvs k = some v ∧ Q v H
def rSG : R2 := fun x y H Q => ∃ (a : Addr) (kvs : List (Key × V)) (z : Str) (v : V), x = .ref a ∧ y = .str z ∧ Rd H a (.dK kvs) ∧ valV kvs (Sum.inr z) = some v ∧ Q v H
theorem tail_dict {prog : Program} {w : World} {A : Around} {E : Value → Shared → Prop} {s : Shared} {value slice : Expr} {o i : Value} {Q : Value → Shared → Prop} (hT : s.TypeIs o "dict") (hs : subscripted slice false o i = operate [o, i] (getItem o i)) (h : wpAny (model prog w) A (getItem o i) Q E s) :
    wpAny (model prog w) A (subscriptTail value slice o i) Q E s := by
  have fin : wpAny (model prog w) A (subscripted slice false o i) (fun r t => wpAny (model prog w) A (letTemporaryGo value o r >>= fun _ => pure r) Q E t) E s := by
    rw [hs]
    exact wpAny_operating (wpAny_mono h (fun _ _ z => wpAny_bind (wpAny_letTemporaryGo (wpAny_pure z))) fun _ _ z => z)
  unfold subscriptTail
  refine wpAny_bind ?_
  rw [getitemInPython_of_ne hT.not_modules]
  refine wpAny_bind (wpAny_specialOf hT PySem.F.slot_dict_getitem.lookup ?_)
  first
    | exact wpAny_bind (wpAny_pure (wpAny_bind fin))
    | exact wpAny_pure (wpAny_bind fin)
    | exact wpAny_bind fin
theorem ix_key (hu : X.A.units + 9 < cLine) : IxR X (rKG X.K X.prog X.w) := by
  intro value slice pins s σ H x y v u Q I rx ry h hs
  obtain ⟨a, kvs, k, z, ex, hd, ⟨hk, hdp, b, eb⟩, hv, q⟩ := h
  subst ex eb
  obtain rfl : v = Value.ref a := rx
  obtain rfl : u = Value.ref b := ry
  obtain ⟨xs, hm, pv, all, hlen⟩ := hd.heap I
  obtain ⟨w', hw, rw'⟩ := RelO.some_of (v := z) (o := valueAt (pairsH xs) k) (by rw [← hv]; exact kv_val pv k)
  rw [valueAt_pairsH] at hw
  obtain ⟨p, hp, hp2⟩ := Option.map_eq_some_iff.mp hw
  refine tail_dict hm.typeIs hs (wpAny_getItem_heap (knd := NK X.prog X.w) (by show X.A.in1.units + 8 < cLine; rw [Around.in1_units]; omega) (key_is I hk hdp) hm hp ?_)
  rw [hp2]
  exact ⟨z, H, I.tok _, rw', q⟩
theorem ix_word (hu : X.A.units + 9 < cLine) : IxR X rSG := by
  intro value slice pins s σ H x y v u Q I rx ry h hs
  obtain ⟨a, kvs, z, w', ex, ey, hd, hv, q⟩ := h
  subst ex ey
  obtain rfl : v = Value.ref a := rx
  have g : DGet H a (.str z) (some w') := .inl ⟨kvs, Sum.inr z, hd, rfl, hv.symm⟩
  exact tail_dict (dict_typeIs I g) hs (d_getItem (by omega) I g ry fun r s' I' rr => ⟨w', H, I', rr, q⟩)
def rSub (K : Fg) (P : Program) (w : World) : R2 := fun x y H Q => rIxT K x y H Q ∨ rIxL K x y H Q ∨ rKG K P w x y H Q ∨ rSG x y H Q
theorem ix_any (hu : X.A.units + 9 < cLine) : IxR X (rSub X.K X.prog X.w) := by
  intro value slice pins s σ H x y v u Q I rx ry h hs
  rcases h with h | h | h | h
  · exact ix_tup value slice pins s σ H x y v u Q I rx ry h hs
  · exact ix_list value slice pins s σ H x y v u Q I rx ry h hs
  · exact ix_key hu value slice pins s σ H x y v u Q I rx ry h hs
  · exact ix_word hu value slice pins s σ H x y v u Q I rx ry h hs
/-- in, not in: dicts, lists and tuples of texts, a sign of a text -/
def rKI (K : Fg) (P : Program) (w : World) (neg : Bool) : R2 := fun y x H Q => ∃ a kvs k, x = .ref a ∧ DictAt K P w H a kvs ∧ KeyV K H y k ∧ Q (.bl (if neg then !(valV kvs k).isSome else (valV kvs k).isSome)) H
def rSI (neg : Bool) : R2 := fun y x H Q => ∃ (a : Addr) (kvs : List (Key × V)) (z : Str), x = .ref a ∧ y = .str z ∧ Rd H a (.dK kvs) ∧ Q (.bl (if neg then !(valV kvs (Sum.inr z)).isSome else (valV kvs (Sum.inr z)).isSome)) H
def rTI (neg : Bool) : R2 := fun x y H Q => ∃ (c : Nat) (z : Str), x = .str ⟨#[c]⟩ ∧ y = .str z ∧ Q (.bl (if neg then !decide (c ∈ z.cps.toList) else decide (c ∈ z.cps.toList))) H
def rInU (K : Fg) (P : Program) (w : World) (neg : Bool) : R2 := fun x y H Q => rKI K P w neg x y H Q ∨ rSI neg x y H Q ∨ rIn K neg x y H Q ∨ rTI neg x y H Q
theorem op_inU (hu : X.A.units + 9 < cLine) : OpR X (compareOp .In) (rInU X.K X.prog X.w false) := by
  refine orR ?_ (orR ?_ (orR op_in_seq ?_))
  · intro pins s σ H y x v u Q I ry rx h
    obtain ⟨a, kvs, k, ex, hd, ⟨hk, hdp, b, eb⟩, q⟩ := h
    subst ex eb
    obtain rfl : u = Value.ref a := rx
    obtain rfl : v = Value.ref b := ry
    obtain ⟨xs, hm, pv, all, hlen⟩ := hd.heap I
    refine in_keyed (knd := NK X.prog X.w) (by show X.A.in1.units + 8 < cLine; rw [Around.in1_units]; omega) (key_is I hk hdp) hd.nm ⟨xs, hm, rfl⟩ ?_
    rw [← (kv_val pv k).isSome_eq]
    exact ⟨.bl _, H, I.tok _, rfl, q⟩
  · intro pins s σ H y x v u Q I ry rx h
    obtain ⟨a, kvs, z, ex, ey, hd, q⟩ := h
    subst ex ey
    obtain rfl : u = Value.ref a := rx
    exact d_in (by omega) I (.inl ⟨kvs, Sum.inr z, hd, rfl, rfl⟩) ry fun s' I' => ⟨.bl _, H, I', rfl, q⟩
  · exact op_in_sign
theorem op_notinU (hu : X.A.units + 9 < cLine) : OpR X (compareOp .NotIn) (rInU X.K X.prog X.w true) := by
  refine orR ?_ (orR ?_ (orR op_notIn_seq ?_))
  · intro pins s σ H y x v u Q I ry rx h
    obtain ⟨a, kvs, k, ex, hd, ⟨hk, hdp, b, eb⟩, q⟩ := h
    subst ex eb
    obtain rfl : u = Value.ref a := rx
    obtain rfl : v = Value.ref b := ry
    obtain ⟨xs, hm, pv, all, hlen⟩ := hd.heap I
    refine notIn_keyed (knd := NK X.prog X.w) (by show X.A.in1.units + 8 < cLine; rw [Around.in1_units]; omega) (key_is I hk hdp) hd.nm ⟨xs, hm, rfl⟩ ?_
    rw [← (kv_val pv k).isSome_eq]
    exact ⟨.bl _, H, I.tok _, rfl, q⟩
  · intro pins s σ H y x v u Q I ry rx h
    obtain ⟨a, kvs, z, ex, ey, hd, q⟩ := h
    subst ex ey
    obtain rfl : u = Value.ref a := rx
    exact d_notIn (by omega) I (.inl ⟨kvs, Sum.inr z, hd, rfl, rfl⟩) ry fun s' I' => ⟨.bl _, H, I', rfl, q⟩
  · exact op_notIn_sign
end
/-! ### the same, as steps -/
/-- what stands at a key -/
def lu {κ γ : Type} [DecidableEq κ] : List (κ × γ) → κ → Option γ
  | [], _ => none
  | (a, b) :: r, k => if a = k then some b else lu r k
/-- a dict with data for keys, of these -/
def yM {γ : Type} (K : Fg) (P : Program) (w : World) (Z : Hp → V → γ → Prop) : Hp → V → List (D × γ) → Prop := fun H v ms => ∃ a kvs, v = .ref a ∧ DictAt K P w H a kvs ∧ Paired (fun (p : D × V) (q : D × γ) => p.1 = q.1 ∧ Z H p.2 q.2) kvs ms
/-- a dict with texts for keys (it may be written) -/
def ySd {γ : Type} (Z : Hp → V → γ → Prop) : Hp → V → List (Key × γ) → Prop := fun H v ms => ∃ a kvs, v = .ref a ∧ Rd H a (.dK kvs) ∧ Paired (fun (p : Key × V) (q : Key × γ) => p.1 = q.1 ∧ Z H p.2 q.2) kvs ms
/-- a set of tuples of ints -/
def ySet (K : Fg) (P : Program) (w : World) : Hp → V → List (List Int) → Prop := fun H v ks => ∃ A L, v = .ref A ∧ H A = some (SetTO P w A L) ∧ L.map (·.2) = ks
section
variable {K : Fg} {P : Program} {w : World} {T : List (Addr × Str)} {H H' : Hp} {σ : L2.St} {te ta tb tc : TE} {β γ : Type} {Y : Hp → V → β → Prop} {Z : Hp → V → γ → Prop}
theorem lu_val {κ : Type} [DecidableEq κ] {kvs : List (κ × V)} {ms : List (κ × γ)} (p : Paired (fun (p : κ × V) (q : κ × γ) => p.1 = q.1 ∧ Z H p.2 q.2) kvs ms) (k : κ) : (∀ g, lu ms k = some g → ∃ v, valV kvs k = some v ∧ Z H v g) ∧ (valV kvs k).isSome = (lu ms k).isSome := by
  induction p with
  | nil => exact ⟨fun g e => (by cases e), rfl⟩
  | @cons x y l m h t ih =>
    obtain ⟨kx, vx⟩ := x
    obtain ⟨ky, gy⟩ := y
    obtain ⟨e, z⟩ := h
    have e : kx = ky := e
    subst e
    unfold lu
    by_cases q : kx = k
    · rw [if_pos q, valV_pos (p := (kx, vx)) q]
      exact ⟨fun g eg => ⟨vx, rfl, by cases eg; exact z⟩, rfl⟩
    · rw [if_neg q, valV_neg (p := (kx, vx)) q]
      exact ih
instance [Mono T Z] : Mono T (yM K P w Z) := ⟨fun r ⟨a, kvs, e, d, l⟩ => ⟨a, kvs, e, d.rp r, Paired.mapP l fun _ _ ⟨h1, h2⟩ => ⟨h1, Mono.mono r h2⟩⟩⟩
theorem rd_rp {a : Addr} {u : HO} (r : Rp T H H') (h : Rd H a u) (n : ∀ ps, u ≠ .tbl ps) : Rd H' a u := by
  rcases h with h | ⟨o, h⟩
  · exact .inl (r.keep _ _ h n)
  · exact .inr ⟨o, r.keep _ _ h fun _ z => by cases z⟩
instance [Mono T Z] : Mono T (ySd Z) := ⟨fun r ⟨a, kvs, e, d, l⟩ => ⟨a, kvs, e, rd_rp r d (fun _ z => by cases z), Paired.mapP l fun _ _ ⟨h1, h2⟩ => ⟨h1, Mono.mono r h2⟩⟩⟩
/-- what may be a key -/
def keyOk (k : D) : Bool := okD k && (match k with | .tup _ => true | _ => false)
theorem keyV_of {v : V} {k : D} (h : Dt K H v k) (o : keyOk k = true) : KeyV K H v k := by
  obtain ⟨h1, h2⟩ := Bool.and_eq_true_iff.mp o
  cases h with
  | tup s l => exact ⟨.tup s l, okD.dp h1, _, rfl⟩
  | non => cases h2
  | int i => cases h2
  | str x => cases h2
/-! + -/
theorem ev_pl {i j : Int} (ha : Ev T yI ta σ H i) (hb : Ev T yI tb σ H j) : Ev T yI (tOp (rPlus K) ta tb) σ H (i + j) := ev_op ha hb fun H1 _ _ _ e1 e2 Q q => .inl ⟨i, j, e1, e2, q _ H1 (Rp.refl _) rfl⟩
theorem ev_plL [my : Mono T Y] {bs cs : List β} (ha : Ev T (yL Y) ta σ H bs) (hb : Ev T (yL Y) tb σ H cs) (hl : bs.length + cs.length ≤ sizeLine) : Ev T (yL Y) (tOp (rPlus K) ta tb) σ H (bs ++ cs) :=
  ev_op ha hb fun H1 x y _ ⟨a, vs, e1, s1, l1⟩ ⟨b, ws, e2, s2, l2⟩ Q q =>
    .inr (.inl ⟨a, b, vs, ws, e1, e2, s1, s2, by rw [l1.length, l2.length]; exact hl, fun p hp => q _ _ (Rp.new hp) ⟨p, _, rfl, upd_same, paired_mono (Rp.new (T := T) hp) (paired_app l1 l2)⟩⟩)
theorem ev_plT {ds es : List D} (ha : Ev T (yD K) ta σ H (.tup ds)) (hb : Ev T (yD K) tb σ H (.tup es)) (h1 : ds ≠ []) (h2 : es ≠ []) (hl : ds.length + es.length ≤ sizeLine) : Ev T (yD K) (tOp (rPlus K) ta tb) σ H (.tup (ds ++ es)) :=
  ev_op ha hb fun H1 x y _ d1 d2 Q q => by
    obtain ⟨a, xs, e1, s1, l1⟩ := d1.tup_inv
    obtain ⟨b, ys, e2, s2, l2⟩ := d2.tup_inv
    subst e1 e2
    refine .inr (.inr ⟨a, b, xs, ys, rfl, rfl, s1, s2, fun e => h1 ?_, by rw [l1.length, l2.length]; exact hl, fun e => absurd ?_ h2, fun _ p hp => q _ _ (Rp.new hp) (.tup (SqT.of upd_same) (DtL.mono (fun _ _ s => (Rp.new (T := T) hp).tup s) _ (l1.app l2)))⟩)
    · subst e
      cases l1
      rfl
    · subst e
      cases l2
      rfl
/-! o[i] -/
theorem ev_suT [my : Mono T Y] {bs : List β} {i : Int} {b : β} (ha : Ev T (yT K Y) ta σ H bs) (hb : Ev T yI tb σ H i) (e : atI bs i = some b) : Ev T Y (tOp (rSub K P w) ta tb) σ H b :=
  ev_op ha hb fun H1 x y _ ⟨a, vs, e1, s, l⟩ e2 Q q => by
    obtain ⟨v, h1, h2⟩ := at_of_paired l e
    exact .inl ⟨a, vs, i, v, e1, e2, s, h1, q v H1 (Rp.refl _) h2⟩
theorem ev_suD {ds : List D} {i : Int} {d : D} (ha : Ev T (yD K) ta σ H (.tup ds)) (hb : Ev T yI tb σ H i) (e : atI ds i = some d) : Ev T (yD K) (tOp (rSub K P w) ta tb) σ H d := ev_suT (ev_DT ha) hb e
theorem ev_suL [my : Mono T Y] {bs : List β} {i : Int} {b : β} (ha : Ev T (yL Y) ta σ H bs) (hb : Ev T yI tb σ H i) (e : atI bs i = some b) : Ev T Y (tOp (rSub K P w) ta tb) σ H b :=
  ev_op ha hb fun H1 x y _ ⟨a, vs, e1, s, l⟩ e2 Q q => by
    obtain ⟨v, h1, h2⟩ := at_of_paired l e
    exact .inr (.inl ⟨a, vs, i, v, e1, e2, SqL.of s, h1, q v H1 (Rp.refl _) h2⟩)
theorem ev_suK [mz : Mono T Z] {ms : List (D × γ)} {k : D} {g : γ} (ha : Ev T (yM K P w Z) ta σ H ms) (hb : Ev T (yD K) tb σ H k) (o : keyOk k = true) (e : lu ms k = some g) : Ev T Z (tOp (rSub K P w) ta tb) σ H g :=
  ev_op ha hb fun H1 x y _ ⟨a, kvs, e1, d, l⟩ dk Q q => by
    obtain ⟨v, h1, h2⟩ := (lu_val l k).1 g e
    exact .inr (.inr (.inl ⟨a, kvs, k, v, e1, d, keyV_of dk o, h1, q v H1 (Rp.refl _) h2⟩))
theorem ev_suS [mz : Mono T Z] {ms : List (Key × γ)} {k : Str} {g : γ} (ha : Ev T (ySd Z) ta σ H ms) (hb : Ev T yS tb σ H k) (e : lu ms (Sum.inr k) = some g) : Ev T Z (tOp (rSub K P w) ta tb) σ H g :=
  ev_op ha hb fun H1 x y _ ⟨a, kvs, e1, d, l⟩ dk Q q => by
    obtain ⟨v, h1, h2⟩ := (lu_val l (Sum.inr k)).1 g e
    exact .inr (.inr (.inr ⟨a, kvs, k, v, e1, dk, d, h1, q v H1 (Rp.refl _) h2⟩))
/-! in -/
theorem ev_inK [mz : Mono T Z] {n : Bool} {ms : List (D × γ)} {k : D} (ha : Ev T (yD K) ta σ H k) (hb : Ev T (yM K P w Z) tb σ H ms) (o : keyOk k = true) : Ev T yB (tOp (rInU K P w n) ta tb) σ H (if n then !(lu ms k).isSome else (lu ms k).isSome) :=
  ev_op ha hb fun H1 x y _ dk ⟨a, kvs, e1, d, l⟩ Q q => .inl ⟨a, kvs, k, e1, d, keyV_of dk o, q _ H1 (Rp.refl _) (by rw [(lu_val l k).2]; rfl)⟩
theorem ev_inS [mz : Mono T Z] {n : Bool} {ms : List (Key × γ)} {k : Str} (ha : Ev T yS ta σ H k) (hb : Ev T (ySd Z) tb σ H ms) : Ev T yB (tOp (rInU K P w n) ta tb) σ H (if n then !(lu ms (Sum.inr k)).isSome else (lu ms (Sum.inr k)).isSome) :=
  ev_op ha hb fun H1 x y _ dk ⟨a, kvs, e1, d, l⟩ Q q => .inr (.inl ⟨a, kvs, k, e1, dk, d, q _ H1 (Rp.refl _) (by rw [(lu_val l (Sum.inr k)).2]; rfl)⟩)
theorem str_map : ∀ {vs : List V} {bs : List Str}, Paired (yS H) vs bs → vs = bs.map V.str
  | _, _, .nil => rfl
  | _, _, .cons a b => by rw [show _ = V.str _ from a, str_map b]; rfl
theorem flat_strs : ∀ bs : List Str, (bs.map V.str).all flatV = true
  | [] => rfl
  | _ :: bs => flat_strs bs
theorem ev_inQ {n : Bool} {bs : List Str} {k : Str} (ha : Ev T yS ta σ H k) (hb : Ev T (yT K yS) tb σ H bs) : Ev T yB (tOp (rInU K P w n) ta tb) σ H (if n then !inV (.str k) (bs.map V.str) else inV (.str k) (bs.map V.str)) :=
  ev_op ha hb fun H1 x y _ dk ⟨a, vs, e1, s, l⟩ Q q => .inr (.inr (.inl ⟨a, vs, e1, .inr s, by rw [show x = V.str k from dk]; rfl, by rw [str_map l]; exact flat_strs bs, q _ H1 (Rp.refl _) (by rw [str_map l, show x = V.str k from dk]; rfl)⟩))
theorem ev_inT {n : Bool} {c : Nat} {z : Str} (ha : Ev T yS ta σ H ⟨#[c]⟩) (hb : Ev T yS tb σ H z) : Ev T yB (tOp (rInU K P w n) ta tb) σ H (if n then !decide (c ∈ z.cps.toList) else decide (c ∈ z.cps.toList)) :=
  ev_op ha hb fun H1 x y _ dk dz Q q => .inr (.inr (.inr ⟨c, z, dk, dz, q _ H1 (Rp.refl _) rfl⟩))
/-! len -/
theorem ev_leL {bs : List β} (h : Ev T (yL Y) te σ H bs) : Ev T yI (tCB (rLenU K P w) (tCons te tNil)) σ H (bs.length : Int) := fun H1 r1 Q q => h H1 r1 _ fun v H2 r2 ⟨a, vs, e, ha, l⟩ =>
  .inl ⟨a, vs, by rw [e], .inl (SqL.of ha), q _ H2 r2 (by rw [l.length]; rfl)⟩
theorem ev_leT {bs : List β} (h : Ev T (yT K Y) te σ H bs) : Ev T yI (tCB (rLenU K P w) (tCons te tNil)) σ H (bs.length : Int) := fun H1 r1 Q q => h H1 r1 _ fun v H2 r2 ⟨a, vs, e, ha, l⟩ =>
  .inl ⟨a, vs, by rw [e], .inr ha, q _ H2 r2 (by rw [l.length]; rfl)⟩
theorem ev_leD {ds : List D} (h : Ev T (yD K) te σ H (.tup ds)) : Ev T yI (tCB (rLenU K P w) (tCons te tNil)) σ H (ds.length : Int) := ev_leT (ev_DT h)
theorem ev_leS {z : Str} (h : Ev T yS te σ H z) (hz : z.length ≤ sizeLine) : Ev T yI (tCB (rLenU K P w) (tCons te tNil)) σ H (z.length : Int) := fun H1 r1 Q q => h H1 r1 _ fun v H2 r2 e =>
  .inr (.inl ⟨z, by rw [show v = V.str z from e], hz, q _ H2 r2 rfl⟩)
theorem ev_leSet {ks : List (List Int)} (h : Ev T (ySet K P w) te σ H ks) : Ev T yI (tCB (rLenU K P w) (tCons te tNil)) σ H (ks.length : Int) := fun H1 r1 Q q => h H1 r1 _ fun v H2 r2 ⟨A, L, e, hA, l⟩ =>
  .inr (.inr (.inl ⟨A, L, by rw [e], hA, q _ H2 r2 (by rw [← l, List.length_map]; rfl)⟩))
theorem ev_leK {ms : List (D × γ)} (h : Ev T (yM K P w Z) te σ H ms) : Ev T yI (tCB (rLenU K P w) (tCons te tNil)) σ H (ms.length : Int) := fun H1 r1 Q q => h H1 r1 _ fun v H2 r2 ⟨a, kvs, e, d, l⟩ =>
  .inr (.inr (.inr ⟨a, kvs, by rw [e], d, q _ H2 r2 (by rw [l.length]; rfl)⟩))
/-! isinstance -/
def tyD : D → String
  | .none => "NoneType"
  | .num _ => "int"
  | .text _ => "str"
  | .tup _ => "tuple"
theorem Dt.ty {v : V} {d : D} (h : Dt K H v d) : TyX K H v (.type (tyD d)) := by
  cases h with
  | non => exact .base .non
  | int i => exact .base (.int i)
  | str x => exact .base (.str x)
  | tup s l =>
    rcases s with (s | ⟨o, s⟩) | ⟨o, its, n, h1, h2, _⟩
    · exact .base (.tup s)
    · exact .fTuple s
    · exact .kTuple h1 h2
theorem ev_isi {d : D} {n : String} {b : Bool} (h : Ev T (yD K) te σ H d) (hb : PySem.W.kitOne K (.type (tyD d)) (.type n) = some b) : Ev T yB (tCB (rIsi K) (tCons te (tCons (tC (.ty n)) tNil))) σ H b := fun H1 r1 Q q => h H1 r1 _ fun v H2 r2 y =>
  ⟨v, .ty n, .type (tyD d), .type n, b, rfl, .ty n, y.ty, hb, q _ H2 r2 rfl⟩
end
end K20
namespace K20
/-! ### deeds -/
inductive Act where
  | wr (b : List Int) (l r : Option (List Int)) (m : Nat)
  | bk (b : List Int)
  deriving DecidableEq
structure Deed where
  h : Int
  n : Int
  seen : List Int
  act : Act
  deriving DecidableEq
def Deed.id (x : Deed) : List Int := [x.h, x.n]
/-- the h-th count -/
def ck (c : List Int) (h : Int) : Int := c.getD (h - 1).toNat 0
def cnt (c : List Int) (x : Deed) : Bool := decide (x.n ≤ ck c x.h)
def known (L : List Deed) (c : List Int) : List Deed := L.filter (cnt c)
def Hand (h : Int) : Prop := 1 ≤ h ∧ h ≤ 4
def Le4 (a b : List Int) : Prop := ∀ h, Hand h → ck a h ≤ ck b h
/-! ### trees -/
abbrev Pl := Option (List Int) × Bool
abbrev Tr := List (List Int × Pl)
def anc (f : List Int → Option Pl) : Nat → List Int → List Int → Bool
  | 0, _, _ => false
  | n + 1, a, s => match f s with
    | some (some p, _) => decide (p = a) || anc f n a p
    | _ => false
def under (t : Tr) (l : Option (List Int)) (r' : List Int) : Bool :=
  match l with
  | none => true
  | some l' => anc (lu t) (t.length + 1) l' r'
def place (t : Tr) (l r : Option (List Int)) : Pl :=
  match r with
  | none => (l, false)
  | some r' => if under t l r' = true then (some r', true) else (l, false)
def sg (x : Deed) (k : Nat) : List Int := [x.h, x.n, (k : Int)]
def hang (x : Deed) (p : Pl) (m : Nat) : Tr := (List.range m).map fun k => (sg x k, if k = 0 then p else (some (sg x (k - 1)), false))
def stepT (b : List Int) (t : Tr) (x : Deed) : Tr :=
  match x.act with
  | .wr b' l r m => if b' = b then t ++ hang x (place t l r) m else t
  | .bk _ => t
def tree (L : List Deed) (b : List Int) : Tr := L.foldl (stepT b) []
/-! ### rows -/
def kids (t : Tr) (p : Option (List Int)) (sd : Bool) : List (List Int) := sortI false ((t.filter fun e => decide (e.2 = (p, sd))).map (·.1))
def run (t : Tr) : Nat → List (List Int × Bool) → List (List Int) → List (List Int)
  | 0, _, out => out
  | _ + 1, [], out => out
  | n + 1, (s, true) :: st, out => run t n ((kids t (some s) true).map (·, true) ++ (s, false) :: ((kids t (some s) false).map (·, true) ++ st)) out
  | n + 1, (s, false) :: st, out => run t n st (out ++ [s])
def rowOf (t : Tr) : List (List Int) := run t (2 * t.length) ((kids t none false).map (·, true)) []
def line (L : List Deed) (b : List Int) : List (List Int) := rowOf (tree L b)
/-- what follows what -/
def Gap (l : List (Option (List Int))) (a b : Option (List Int)) : Prop := ∃ i, l[i]? = some a ∧ l[i + 1]? = some b
def ends (l : List (List Int)) : List (Option (List Int)) := [none] ++ l.map some ++ [none]
def root : List Int := [0, 0]
def IsBlock (L : List Deed) (b : List Int) : Prop := b = root ∨ ∃ y ∈ L, y.id = b ∧ ∃ c, y.act = .bk c
/-! ### good histories -/
def FitsX (S : List Deed) : Act → Prop
  | .wr b l r m => IsBlock S b ∧ Gap (ends (line S b)) l r ∧ 1 ≤ m ∧ m ≤ 3
  | .bk b => IsBlock S b
structure DeedOk (x : Deed) : Prop where
  hand : Hand x.h
  n1 : 1 ≤ x.n
  len : x.seen.length = 4
  pos : ∀ i ∈ x.seen, 0 ≤ i
  own : ck x.seen x.h = x.n - 1
structure Good (L : List Deed) : Prop where
  ok : ∀ x ∈ L, DeedOk x
  nd : (L.map Deed.id).Nodup
  ord : L.Pairwise fun x y => cnt x.seen y = false
  cl : ∀ x ∈ L, ∀ h m, Hand h → 1 ≤ m → m ≤ ck x.seen h → ∃ y ∈ L, y.h = h ∧ y.n = m ∧ Le4 y.seen x.seen
  fit : ∀ x ∈ L, FitsX (known L x.seen) x.act
end K20
namespace K20
open PySem PySem.Spec PyProof.Rows
/-! ### sorting -/
theorem leI_f (a b : List Int) : leI false a b = decide (a ≤ b) := by
  unfold leI
  rw [PySem.W.dataLe_eq]
  show (!PySem.W.dataLt (tI b).data (tI a).data) = _
  rw [tI_data, tI_data]
  have e : PySem.W.dataLt (.tuple (b.map PyData.int)) (.tuple (a.map PyData.int)) = decide (b < a) := PySem.W.dataLt_ints b a
  rw [e]
  by_cases h : b < a
  · rw [decide_eq_true h]
    symm
    exact decide_eq_false fun k => k h
  · rw [decide_eq_false h]
    symm
    exact decide_eq_true h
theorem leI_tot (b : Bool) : PySem.W.TotalLe (leI b) := PySem.W.sortLe_total _ b _
theorem sortI_perm (b : Bool) (l : List (List Int)) : (sortI b l).Perm l := List.mergeSort_perm l _
theorem mem_sortI {b : Bool} {l : List (List Int)} {x : List Int} : x ∈ sortI b l ↔ x ∈ l := (sortI_perm b l).mem_iff
theorem sortI_sorted (l : List (List Int)) : (sortI false l).Pairwise (fun a b => a ≤ b) := (PySem.W.sort_pairwise (leI_tot false) l).imp fun {a b} h => by
  rw [leI_f] at h
  exact of_decide_eq_true h
theorem sorted_eq {l m : List (List Int)} (h1 : l.Pairwise (fun a b => a ≤ b)) (h2 : m.Pairwise (fun a b => a ≤ b)) (p : l.Perm m) : l = m :=
  List.Perm.eq_of_pairwise (fun a b _ _ x y => List.le_antisymm x y) h1 h2 p
theorem sortI_congr {l m : List (List Int)} (p : l.Perm m) : sortI false l = sortI false m := sorted_eq (sortI_sorted l) (sortI_sorted m) ((sortI_perm _ l).trans (p.trans (sortI_perm _ m).symm))
theorem sortI_filter (l : List (List Int)) (p : List Int → Bool) : (sortI false l).filter p = sortI false (l.filter p) :=
  sorted_eq ((sortI_sorted l).filter p) (sortI_sorted _) (((sortI_perm _ l).filter p).trans (sortI_perm _ _).symm)
theorem sortI_rev (l : List (List Int)) : sortI true l = (sortI false l).reverse := by
  have h : (l.reverse.mergeSort (leI false)).reverse = l.mergeSort (leI true) := PySem.W.sort_reverse (listOrd itemOrd) (fun k => PySem.W.keyToks (tI k).data) l
  show l.mergeSort (leI true) = _
  rw [← h]
  exact congrArg List.reverse (sortI_congr (List.reverse_perm l))
/-! ### lists, from behind -/
theorem snoc_ind {α : Type} {m : List α → Prop} (h0 : m []) (h1 : ∀ l x, m l → m (l ++ [x])) : ∀ l, m l := fun l => by
  have h : ∀ l : List α, m l.reverse := fun l => by
    induction l with
    | nil => exact h0
    | cons x l ih => rw [List.reverse_cons]; exact h1 _ _ ih
  have z := h l.reverse
  rwa [List.reverse_reverse] at z
/-! ### look-ups -/
section
variable {κ γ : Type} [DecidableEq κ]
theorem lu_app (t u : List (κ × γ)) (k : κ) : lu (t ++ u) k = (lu t k).or (lu u k) := by
  induction t with
  | nil => rfl
  | cons a t ih =>
    obtain ⟨x, y⟩ := a
    show (if x = k then some y else lu (t ++ u) k) = (if x = k then some y else lu t k).or (lu u k)
    by_cases h : x = k
    · rw [if_pos h, if_pos h]; rfl
    · rw [if_neg h, if_neg h]; exact ih
theorem lu_none {t : List (κ × γ)} {k : κ} : lu t k = none ↔ k ∉ t.map (·.1) := by
  induction t with
  | nil => exact ⟨fun _ => by simp, fun _ => rfl⟩
  | cons a t ih =>
    obtain ⟨x, y⟩ := a
    unfold lu
    by_cases h : x = k
    · rw [if_pos h]
      simp [h]
    · rw [if_neg h, ih]
      simp [Ne.symm h]
theorem lu_mem {t : List (κ × γ)} {k : κ} {g : γ} (h : lu t k = some g) : (k, g) ∈ t := by
  induction t with
  | nil => cases h
  | cons a t ih =>
    obtain ⟨x, y⟩ := a
    unfold lu at h
    by_cases e : x = k
    · rw [if_pos e] at h
      cases h
      subst e
      exact List.mem_cons_self
    · rw [if_neg e] at h
      exact List.mem_cons_of_mem _ (ih h)
theorem mem_lu {t : List (κ × γ)} (nd : (t.map (·.1)).Nodup) {k : κ} {g : γ} (h : (k, g) ∈ t) : lu t k = some g := by
  induction t with
  | nil => cases h
  | cons a t ih =>
    obtain ⟨x, y⟩ := a
    obtain ⟨n1, n2⟩ := List.nodup_cons.mp nd
    unfold lu
    rcases List.mem_cons.mp h with e | e
    · cases e
      rw [if_pos rfl]
    · rw [if_neg fun (z : x = k) => n1 (List.mem_map.mpr ⟨_, e, z.symm⟩)]
      exact ih n2 e
theorem lu_some {t : List (κ × γ)} {k : κ} (h : k ∈ t.map (·.1)) : ∃ g, lu t k = some g := by
  cases e : lu t k with
  | none => exact absurd h (lu_none.mp e)
  | some g => exact ⟨g, rfl⟩
theorem lu_key {t : List (κ × γ)} {k : κ} {g : γ} (h : lu t k = some g) : k ∈ t.map (·.1) := List.mem_map.mpr ⟨_, lu_mem h, rfl⟩
end
def keys (t : Tr) : List (List Int) := t.map (·.1)
/-- a tree, its signs in the order in which they came -/
inductive TB : Tr → Prop
  | nil : TB []
  | snoc {t : Tr} {s : List Int} {pl : Pl} : TB t → s ∉ keys t → (∀ p, pl.1 = some p → p ∈ keys t) → (pl.1 = none → pl.2 = false) → TB (t ++ [(s, pl)])
theorem TB.nd {t : Tr} (h : TB t) : (keys t).Nodup := by
  induction h with
  | nil => exact List.nodup_nil
  | @snoc t s pl h1 h2 h3 h4 ih =>
    unfold keys at *
    rw [List.map_append]
    refine List.nodup_append.mpr ⟨ih, by simp, fun a ha b hb => ?_⟩
    rw [List.map_cons, List.map_nil, List.mem_singleton] at hb
    subst hb
    exact fun e => h2 (e ▸ ha)
theorem TB.par {t : Tr} (h : TB t) : ∀ s p sd, (s, (some p, sd)) ∈ t → p ∈ keys t := by
  induction h with
  | nil => exact fun _ _ _ h => by cases h
  | @snoc t s pl h1 h2 h3 h4 ih =>
    intro s' p sd hm
    unfold keys
    rw [List.map_append]
    refine List.mem_append_left _ ?_
    rcases List.mem_append.mp hm with hm | hm
    · exact ih _ _ _ hm
    · have e := List.mem_singleton.mp hm
      cases e
      exact h3 _ rfl
theorem TB.top {t : Tr} (h : TB t) : ∀ s pl, (s, pl) ∈ t → pl.1 = none → pl.2 = false := by
  induction h with
  | nil => exact fun _ _ h => by cases h
  | @snoc t s pl h1 h2 h3 h4 ih =>
    intro s' pl' hm
    rcases List.mem_append.mp hm with hm | hm
    · exact ih _ _ hm
    · have e := List.mem_singleton.mp hm
      cases e
      exact h4
/-! ### the row's machine -/
theorem mem_kids {t : Tr} {p : Option (List Int)} {sd : Bool} {s : List Int} : s ∈ kids t p sd ↔ (s, (p, sd)) ∈ t := by
  unfold kids
  rw [mem_sortI]
  constructor
  · intro h
    obtain ⟨e, he, rfl⟩ := List.mem_map.mp h
    obtain ⟨h1, h2⟩ := List.mem_filter.mp he
    obtain ⟨a, b⟩ := e
    have h2 : b = (p, sd) := of_decide_eq_true h2
    subst h2
    exact h1
  · intro h
    exact List.mem_map.mpr ⟨_, List.mem_filter.mpr ⟨h, decide_eq_true rfl⟩, rfl⟩
theorem kids_nd {t : Tr} (nd : (keys t).Nodup) (p : Option (List Int)) (sd : Bool) : (kids t p sd).Nodup :=
  ((sortI_perm false _).nodup_iff).mpr (List.Nodup.sublist (List.Sublist.map _ List.filter_sublist) nd)
inductive Runs (t : Tr) : List (List Int × Bool) → List (List Int) → List (List Int) → Nat → Prop
  | nil (out : List (List Int)) : Runs t [] out out 0
  | op {s : List Int} {st : List (List Int × Bool)} {out res : List (List Int)} {n : Nat} : Runs t ((kids t (some s) true).map (·, true) ++ (s, false) :: ((kids t (some s) false).map (·, true) ++ st)) out res n → Runs t ((s, true) :: st) out res (n + 1)
  | out {s : List Int} {st : List (List Int × Bool)} {out res : List (List Int)} {n : Nat} : Runs t st (out ++ [s]) res n → Runs t ((s, false) :: st) out res (n + 1)
theorem Runs.run {t : Tr} {st : List (List Int × Bool)} {out res : List (List Int)} {n : Nat} (h : Runs t st out res n) : ∀ N, n ≤ N → K20.run t N st out = res := by
  induction h with
  | nil out =>
    intro N _
    cases N <;> rfl
  | op h ih =>
    intro N hN
    cases N with
    | zero => omega
    | succ N => exact ih N (by omega)
  | out h ih =>
    intro N hN
    cases N with
    | zero => omega
    | succ N => exact ih N (by omega)
/-- opened -/
def ops (st : List (List Int × Bool)) (out : List (List Int)) : List (List Int) := (st.filter fun e => !e.2).map (·.1) ++ out
structure RI (t : Tr) (st : List (List Int × Bool)) (out : List (List Int)) : Prop where
  nd : (st.map (·.1) ++ out).Nodup
  sub : ∀ s ∈ st.map (·.1) ++ out, s ∈ keys t
  ch : ∀ s p sd, (s, (some p, sd)) ∈ t → (s ∈ st.map (·.1) ++ out ↔ p ∈ ops st out)
  tp : ∀ s sd, (s, (none, sd)) ∈ t → s ∈ st.map (·.1) ++ out
theorem ops_sub {st : List (List Int × Bool)} {out : List (List Int)} : ∀ s ∈ ops st out, s ∈ st.map (·.1) ++ out := fun s h => by
  rcases List.mem_append.mp h with h | h
  · obtain ⟨e, he, rfl⟩ := List.mem_map.mp h
    exact List.mem_append_left _ (List.mem_map.mpr ⟨e, (List.mem_filter.mp he).1, rfl⟩)
  · exact List.mem_append_right _ h
theorem ops_nd {st : List (List Int × Bool)} {out : List (List Int)} (h : (st.map (·.1) ++ out).Nodup) : (ops st out).Nodup :=
  List.Nodup.sublist (List.Sublist.append (List.Sublist.map _ List.filter_sublist) (List.Sublist.refl _)) h
theorem mt_id (l : List (List Int)) : (l.map fun c => (c, true)).map (·.1) = l := by rw [List.map_map]; exact List.map_id l
theorem mt_no (l : List (List Int)) : ((l.map fun c => (c, true)).filter fun e => !e.2) = [] := by
  rw [List.filter_eq_nil_iff]
  intro a ha
  obtain ⟨b, _, rfl⟩ := List.mem_map.mp ha
  simp
theorem fl_op {t : Tr} {s : List Int} {st : List (List Int × Bool)} : (((kids t (some s) true).map (·, true) ++ (s, false) :: ((kids t (some s) false).map (·, true) ++ st)).filter fun e => !e.2) = (s, false) :: (((s, true) :: st).filter fun e => !e.2) := by
  rw [List.filter_append, mt_no, List.nil_append, List.filter_cons_of_pos (by rfl), List.filter_append, mt_no, List.nil_append, List.filter_cons_of_neg (by simp)]
theorem ops_op {t : Tr} {s : List Int} {st : List (List Int × Bool)} {out : List (List Int)} : ops ((kids t (some s) true).map (·, true) ++ (s, false) :: ((kids t (some s) false).map (·, true) ++ st)) out = s :: ops ((s, true) :: st) out := by
  unfold ops
  rw [fl_op, List.map_cons, List.cons_append]
theorem ri_op {t : Tr} (B : TB t) {s : List Int} {st : List (List Int × Bool)} {out : List (List Int)} (I : RI t ((s, true) :: st) out) : RI t ((kids t (some s) true).map (·, true) ++ (s, false) :: ((kids t (some s) false).map (·, true) ++ st)) out := by
  have nd := B.nd
  have em : ∀ l : List (List Int), (l.map fun c => (c, true)).map (·.1) = l := fun l => by rw [List.map_map]; exact List.map_id l
  have eA : (((kids t (some s) true).map (·, true) ++ (s, false) :: ((kids t (some s) false).map (·, true) ++ st)).map (·.1) ++ out) = kids t (some s) true ++ (s :: (kids t (some s) false ++ (st.map (·.1) ++ out))) := by
    simp only [List.map_append, List.map_cons, em, List.append_assoc, List.cons_append]
  have ef : ∀ l : List (List Int), ((l.map fun c => (c, true)).filter fun e => !e.2) = [] := fun l => by
    rw [List.filter_eq_nil_iff]
    intro a ha
    obtain ⟨b, _, rfl⟩ := List.mem_map.mp ha
    simp
  have eo : ops ((kids t (some s) true).map (·, true) ++ (s, false) :: ((kids t (some s) false).map (·, true) ++ st)) out = s :: ops st out := by
    unfold ops
    rw [List.filter_append, ef, List.nil_append, List.filter_cons_of_pos (by rfl), List.filter_append, ef, List.nil_append, List.map_cons, List.cons_append]
  have eo0 : ops ((s, true) :: st) out = ops st out := by
    unfold ops
    rw [List.filter_cons_of_neg (by simp)]
  have hA : (((s, true) :: st).map (·.1) ++ out) = s :: (st.map (·.1) ++ out) := rfl
  obtain ⟨ns, nA⟩ := List.nodup_cons.mp (hA ▸ I.nd)
  have no : s ∉ ops st out := fun h => ns (ops_sub _ h)
  have fresh : ∀ c sd, c ∈ kids t (some s) sd → c ∉ s :: (st.map (·.1) ++ out) := fun c sd hc hm => by
    have z := (I.ch c s sd (mem_kids.mp hc)).mp hm
    rw [eo0] at z
    exact no z
  have uq : ∀ c p q, (c, p) ∈ t → (c, q) ∈ t → p = q := fun c p q h1 h2 => by
    have e1 := mem_lu (t := t) nd h1
    rw [mem_lu (t := t) nd h2] at e1
    exact (Option.some.inj e1).symm
  refine ⟨?_, ?_, ?_, ?_⟩
  · rw [eA]
    refine List.nodup_append.mpr ⟨kids_nd nd _ _, List.nodup_cons.mpr ⟨?_, List.nodup_append.mpr ⟨kids_nd nd _ _, nA, ?_⟩⟩, ?_⟩
    · intro h
      rcases List.mem_append.mp h with h | h
      · exact fresh _ _ h List.mem_cons_self
      · exact ns h
    · intro a ha b hb e
      subst e
      exact fresh _ _ ha (List.mem_cons_of_mem _ hb)
    · intro a ha b hb e
      subst e
      rcases List.mem_cons.mp hb with e | hb
      · subst e
        exact fresh _ _ ha List.mem_cons_self
      · rcases List.mem_append.mp hb with hb | hb
        · have z := uq _ _ _ (mem_kids.mp ha) (mem_kids.mp hb)
          cases z
        · exact fresh _ _ ha (List.mem_cons_of_mem _ hb)
  · rw [eA]
    intro c hc
    rcases List.mem_append.mp hc with hc | hc
    · exact List.mem_map.mpr ⟨_, mem_kids.mp hc, rfl⟩
    · rcases List.mem_cons.mp hc with e | hc
      · subst e
        exact I.sub _ (by rw [hA]; exact List.mem_cons_self)
      · rcases List.mem_append.mp hc with hc | hc
        · exact List.mem_map.mpr ⟨_, mem_kids.mp hc, rfl⟩
        · exact I.sub _ (by rw [hA]; exact List.mem_cons_of_mem _ hc)
  · intro c p sd hm
    rw [eA, eo]
    have z := I.ch c p sd hm
    rw [hA, eo0] at z
    constructor
    · intro h
      by_cases e : p = s
      · rw [e]
        exact List.mem_cons_self
      · refine List.mem_cons_of_mem _ (z.mp ?_)
        rcases List.mem_append.mp h with h | h
        · have q := uq _ _ _ hm (mem_kids.mp h)
          cases q
          exact absurd rfl e
        · rcases List.mem_cons.mp h with h | h
          · rw [h]; exact List.mem_cons_self
          · rcases List.mem_append.mp h with h | h
            · have q := uq _ _ _ hm (mem_kids.mp h)
              cases q
              exact absurd rfl e
            · exact List.mem_cons_of_mem _ h
    · intro h
      rcases List.mem_cons.mp h with e | h
      · subst e
        cases sd with
        | true => exact List.mem_append_left _ (mem_kids.mpr hm)
        | false => exact List.mem_append_right _ (List.mem_cons_of_mem _ (List.mem_append_left _ (mem_kids.mpr hm)))
      · rcases List.mem_cons.mp (z.mpr h) with e | q
        · rw [e]
          exact List.mem_append_right _ List.mem_cons_self
        · exact List.mem_append_right _ (List.mem_cons_of_mem _ (List.mem_append_right _ q))
  · intro c sd hm
    rw [eA]
    have z := I.tp c sd hm
    rw [hA] at z
    rcases List.mem_cons.mp z with e | q
    · rw [e]
      exact List.mem_append_right _ List.mem_cons_self
    · exact List.mem_append_right _ (List.mem_cons_of_mem _ (List.mem_append_right _ q))
theorem ri_out {t : Tr} {s : List Int} {st : List (List Int × Bool)} {out : List (List Int)} (I : RI t ((s, false) :: st) out) : RI t st (out ++ [s]) := by
  have p : (st.map (·.1) ++ (out ++ [s])).Perm (((s, false) :: st).map (·.1) ++ out) := by
    show (st.map (·.1) ++ (out ++ [s])).Perm (s :: (st.map (·.1) ++ out))
    rw [← List.append_assoc]
    exact List.perm_append_comm
  have q : (ops st (out ++ [s])).Perm (ops ((s, false) :: st) out) := by
    unfold ops
    rw [List.filter_cons_of_pos (by rfl), List.map_cons, List.cons_append, ← List.append_assoc]
    exact List.perm_append_comm
  exact ⟨p.nodup_iff.mpr I.nd, fun c hc => I.sub c (p.mem_iff.mp hc), fun c pp sd hm => (p.mem_iff.trans (I.ch c pp sd hm)).trans q.mem_iff.symm, fun c sd hm => p.mem_iff.mpr (I.tp c sd hm)⟩
theorem ri_end {t : Tr} (B : TB t) {out : List (List Int)} (I : RI t [] out) : out.Perm (keys t) := by
  have h : ∀ t0 : Tr, TB t0 → (∀ e ∈ t0, e ∈ t) → ∀ s ∈ keys t0, s ∈ out := fun t0 B0 => by
    induction B0 with
    | nil => exact fun _ s h => by cases h
    | @snoc t0 s pl h1 h2 h3 h4 ih =>
      intro sub c hc
      have ih := ih fun e he => sub e (List.mem_append_left _ he)
      unfold keys at hc
      rw [List.map_append] at hc
      rcases List.mem_append.mp hc with hc | hc
      · exact ih c hc
      · have e : c = s := List.mem_singleton.mp hc
        rw [e]
        have hm := sub (s, pl) (List.mem_append_right _ List.mem_cons_self)
        obtain ⟨p, sd⟩ := pl
        cases p with
        | none => exact I.tp s sd hm
        | some p => exact (I.ch s p sd hm).mpr (ih p (h3 p rfl))
  exact (List.perm_ext_iff_of_nodup I.nd B.nd).mpr fun s => ⟨fun hs => I.sub s hs, h t B (fun _ h => h) s⟩
theorem ri_runs {t : Tr} (B : TB t) : ∀ (m : Nat) (st : List (List Int × Bool)) (out : List (List Int)), RI t st out → 2 * (t.length - (ops st out).length) + (st.filter fun e => !e.2).length = m → ∃ res n, Runs t st out res n ∧ n ≤ m ∧ res.Perm (keys t) := by
  intro m
  induction m with
  | zero =>
    intro st out I hm
    cases st with
    | nil => exact ⟨out, 0, .nil _, Nat.le_refl _, ri_end B I⟩
    | cons e st =>
      obtain ⟨s, b⟩ := e
      cases b with
      | false => rw [List.filter_cons_of_pos (by rfl), List.length_cons] at hm; omega
      | true =>
        exfalso
        have I' := ri_op B I
        have l := List.Nodup.length_le_of_subset (ops_nd I'.nd) (fun c hc => I'.sub c (ops_sub c hc))
        have eo : (ops ((kids t (some s) true).map (·, true) ++ (s, false) :: ((kids t (some s) false).map (·, true) ++ st)) out).length = (ops ((s, true) :: st) out).length + 1 := by
          rw [ops_op, List.length_cons]
        unfold keys at l
        rw [eo, List.length_map] at l
        omega
  | succ m ih =>
    intro st out I hm
    cases st with
    | nil => exact ⟨out, 0, .nil _, Nat.zero_le _, ri_end B I⟩
    | cons e st =>
      obtain ⟨s, b⟩ := e
      cases b with
      | false =>
        have I' := ri_out I
        have e1 : (ops st (out ++ [s])).length = (ops ((s, false) :: st) out).length := by
          unfold ops
          simp
          omega
        rw [List.filter_cons_of_pos (by rfl), List.length_cons] at hm
        obtain ⟨res, n, h1, h2, h3⟩ := ih st (out ++ [s]) I' (by rw [e1]; omega)
        exact ⟨res, n + 1, .out h1, by omega, h3⟩
      | true =>
        have I' := ri_op B I
        have l := List.Nodup.length_le_of_subset (ops_nd I'.nd) (fun c hc => I'.sub c (ops_sub c hc))
        have eo : (ops ((kids t (some s) true).map (·, true) ++ (s, false) :: ((kids t (some s) false).map (·, true) ++ st)) out).length = (ops ((s, true) :: st) out).length + 1 := by
          rw [ops_op, List.length_cons]
        have ef : (((kids t (some s) true).map (·, true) ++ (s, false) :: ((kids t (some s) false).map (·, true) ++ st)).filter fun e => !e.2).length = (((s, true) :: st).filter fun e => !e.2).length + 1 := by
          rw [fl_op, List.length_cons]
        unfold keys at l
        rw [List.length_map] at l
        obtain ⟨res, n, h1, h2, h3⟩ := ih _ out I' (by rw [ef]; omega)
        exact ⟨res, n + 1, .op h1, by omega, h3⟩
/-- the row is there, within its steps, and holds every sign -/
theorem row_runs {t : Tr} (B : TB t) : ∃ n, n ≤ 2 * t.length ∧ Runs t ((kids t none false).map (·, true)) [] (rowOf t) n ∧ (rowOf t).Perm (keys t) := by
  have em : ∀ l : List (List Int), (l.map fun c => (c, true)).map (·.1) = l := fun l => by rw [List.map_map]; exact List.map_id l
  have ef : ∀ l : List (List Int), ((l.map fun c => (c, true)).filter fun e => !e.2) = [] := fun l => by
    rw [List.filter_eq_nil_iff]
    intro a ha
    obtain ⟨b, _, rfl⟩ := List.mem_map.mp ha
    simp
  have I : RI t ((kids t none false).map (·, true)) [] := by
    refine ⟨?_, ?_, ?_, ?_⟩
    · rw [em, List.append_nil]
      exact kids_nd B.nd _ _
    · rw [em, List.append_nil]
      exact fun s hs => List.mem_map.mpr ⟨_, mem_kids.mp hs, rfl⟩
    · intro s p sd hm
      unfold ops
      rw [em, ef, List.append_nil]
      constructor
      · intro h
        have e1 := mem_lu (t := t) B.nd hm
        rw [mem_lu (t := t) B.nd (mem_kids.mp h)] at e1
        cases e1
      · intro h
        cases h
    · intro s sd hm
      have e : sd = false := B.top _ _ hm rfl
      subst e
      rw [em, List.append_nil]
      exact mem_kids.mpr hm
  obtain ⟨res, n, h1, h2, h3⟩ := ri_runs B _ _ _ I rfl
  have e : (ops ((kids t none false).map (·, true)) ([] : List (List Int))).length = 0 := by
    unfold ops
    rw [ef]
    rfl
  rw [e, ef] at h2
  have hn : n ≤ 2 * t.length := by simpa using h2
  have er : rowOf t = res := h1.run _ hn
  rw [er]
  exact ⟨n, hn, h1, h3⟩
theorem row_len {t : Tr} (B : TB t) : (rowOf t).length = t.length := by
  obtain ⟨n, _, _, p⟩ := row_runs B
  rw [p.length_eq]
  exact List.length_map _
end K20
namespace K20
/-! ### the signs of a tree -/
theorem tree_snoc (P : List Deed) (x : Deed) (b : List Int) : tree (P ++ [x]) b = stepT b (tree P b) x := by
  unfold tree
  rw [List.foldl_append]
  rfl
theorem hang_keys (x : Deed) (p : Pl) (m : Nat) : keys (hang x p m) = (List.range m).map (sg x) := by
  unfold keys hang
  rw [List.map_map]
  rfl
theorem mem_tree {L : List Deed} {b s : List Int} : s ∈ keys (tree L b) ↔ ∃ x ∈ L, ∃ l r m k, x.act = .wr b l r m ∧ k < m ∧ s = sg x k := by
  refine snoc_ind (m := fun L => s ∈ keys (tree L b) ↔ ∃ x ∈ L, ∃ l r m k, x.act = .wr b l r m ∧ k < m ∧ s = sg x k) ?_ (fun P x ih => ?_) L
  · exact ⟨fun h => (by cases h), fun ⟨x, h, _⟩ => (by cases h)⟩
  · rw [tree_snoc]
    have old : (∃ y ∈ P ++ [x], ∃ l r m k, y.act = .wr b l r m ∧ k < m ∧ s = sg y k) ↔ (∃ y ∈ P, ∃ l r m k, y.act = .wr b l r m ∧ k < m ∧ s = sg y k) ∨ ∃ l r m k, x.act = .wr b l r m ∧ k < m ∧ s = sg x k := by
      constructor
      · rintro ⟨y, hy, q⟩
        rcases List.mem_append.mp hy with hy | hy
        · exact .inl ⟨y, hy, q⟩
        · rw [List.mem_singleton.mp hy] at q
          exact .inr q
      · rintro (⟨y, hy, q⟩ | q)
        · exact ⟨y, List.mem_append_left _ hy, q⟩
        · exact ⟨x, List.mem_append_right _ List.mem_cons_self, q⟩
    rw [old, ← ih]
    unfold stepT
    cases ha : x.act with
    | bk c => exact ⟨fun h => .inl h, fun h => h.elim id fun ⟨_, _, _, _, e, _⟩ => (by cases e)⟩
    | wr b' l r m =>
      show s ∈ keys (if b' = b then tree P b ++ hang x (place (tree P b) l r) m else tree P b) ↔ _
      by_cases hb : b' = b
      · rw [if_pos hb]
        subst hb
        have ek : keys (tree P b' ++ hang x (place (tree P b') l r) m) = keys (tree P b') ++ (List.range m).map (sg x) := by
          rw [← hang_keys x (place (tree P b') l r) m]
          exact List.map_append
        rw [ek, List.mem_append]
        refine or_congr Iff.rfl ⟨fun h => ?_, fun ⟨_, _, _, k, e, hk, es⟩ => ?_⟩
        · obtain ⟨k, hk, rfl⟩ := List.mem_map.mp h
          exact ⟨l, r, m, k, rfl, List.mem_range.mp hk, rfl⟩
        · cases e
          exact List.mem_map.mpr ⟨k, List.mem_range.mpr hk, es.symm⟩
      · rw [if_neg hb]
        exact ⟨fun h => .inl h, fun h => h.elim id fun ⟨_, _, _, _, e, _⟩ => by cases e; exact absurd rfl hb⟩
theorem tree_mono {L M : List Deed} (h : ∀ x ∈ L, x ∈ M) {b s : List Int} (hs : s ∈ keys (tree L b)) : s ∈ keys (tree M b) := by
  obtain ⟨x, hx, q⟩ := mem_tree.mp hs
  exact mem_tree.mpr ⟨x, h x hx, q⟩
/-- a row holds signs of its tree -/
theorem run_mem {t : Tr} : ∀ (n : Nat) (st : List (List Int × Bool)) (out : List (List Int)), (∀ e ∈ st, e.1 ∈ keys t) → (∀ s ∈ out, s ∈ keys t) → ∀ s ∈ run t n st out, s ∈ keys t := by
  intro n
  induction n with
  | zero => exact fun _ _ _ h => h
  | succ n ih =>
    intro st out h1 h2
    cases st with
    | nil => exact h2
    | cons e st =>
      obtain ⟨s, b⟩ := e
      have hs := h1 _ List.mem_cons_self
      have hr : ∀ e ∈ st, e.1 ∈ keys t := fun e he => h1 e (List.mem_cons_of_mem _ he)
      cases b with
      | true =>
        refine ih _ _ (fun e he => ?_) h2
        rcases List.mem_append.mp he with he | he
        · obtain ⟨c, hc, rfl⟩ := List.mem_map.mp he
          exact List.mem_map.mpr ⟨_, mem_kids.mp hc, rfl⟩
        · rcases List.mem_cons.mp he with he | he
          · rw [he]; exact hs
          · rcases List.mem_append.mp he with he | he
            · obtain ⟨c, hc, rfl⟩ := List.mem_map.mp he
              exact List.mem_map.mpr ⟨_, mem_kids.mp hc, rfl⟩
            · exact hr e he
      | false =>
        refine ih _ _ hr (fun c hc => ?_)
        rcases List.mem_append.mp hc with hc | hc
        · exact h2 c hc
        · rw [List.mem_singleton.mp hc]; exact hs
theorem mem_line {L : List Deed} {b s : List Int} (h : s ∈ line L b) : s ∈ keys (tree L b) := by
  refine run_mem _ _ _ (fun e he => ?_) (fun _ h => by cases h) s h
  obtain ⟨c, hc, rfl⟩ := List.mem_map.mp he
  exact List.mem_map.mpr ⟨_, mem_kids.mp hc, rfl⟩
theorem gap_mem {l : List (List Int)} {a c : Option (List Int)} (h : Gap (ends l) a c) : (∀ s, a = some s → s ∈ l) ∧ ∀ s, c = some s → s ∈ l := by
  obtain ⟨i, h1, h2⟩ := h
  have m : ∀ (j : Nat) (s : List Int), (ends l)[j]? = some (some s) → s ∈ l := fun j s e => by
    have q := List.mem_of_getElem? e
    unfold ends at q
    simpa using q
  exact ⟨fun s e => m _ s (e ▸ h1), fun s e => m _ s (e ▸ h2)⟩
/-! ### good histories, from their beginnings -/
theorem id_eq {x y : Deed} : x.id = y.id ↔ x.h = y.h ∧ x.n = y.n := by
  unfold Deed.id
  simp
theorem nd_inj {L : List Deed} (nd : (L.map Deed.id).Nodup) {x y : Deed} (hx : x ∈ L) (hy : y ∈ L) (e : x.id = y.id) : x = y := by
  induction L with
  | nil => cases hx
  | cons a L ih =>
    obtain ⟨n1, n2⟩ := List.nodup_cons.mp nd
    rcases List.mem_cons.mp hx with ex | hx
    · rcases List.mem_cons.mp hy with ey | hy
      · rw [ex, ey]
      · exact absurd (List.mem_map.mpr ⟨y, hy, by rw [← ex]; exact e.symm⟩) n1
    · rcases List.mem_cons.mp hy with ey | hy
      · exact absurd (List.mem_map.mpr ⟨x, hx, by rw [← ey]; exact e⟩) n1
      · exact ih n2 hx hy
theorem DeedOk.self {x : Deed} (h : DeedOk x) : cnt x.seen x = false := by
  unfold cnt
  rw [h.own]
  exact decide_eq_false (by omega)
theorem cnt_le {a c : List Int} (h : Le4 a c) {x : Deed} (hx : Hand x.h) (q : cnt a x = true) : cnt c x = true := by
  unfold cnt at *
  have z := of_decide_eq_true q
  have y := h x.h hx
  exact decide_eq_true (by omega)
theorem known_app (P R : List Deed) (c : List Int) : known (P ++ R) c = known P c ++ known R c := List.filter_append ..
section
variable {L P : List Deed} {x y : Deed}
theorem Good.past (g : Good (P ++ [x])) (hy : y ∈ P ++ [x]) : known (P ++ [x]) y.seen = known P y.seen := by
  have e : cnt y.seen x = false := by
    rcases List.mem_append.mp hy with hy | hy
    · exact (List.pairwise_append.mp g.ord).2.2 y hy x List.mem_cons_self
    · rw [List.mem_singleton.mp hy]
      exact (g.ok x (List.mem_append_right _ List.mem_cons_self)).self
  rw [known_app]
  unfold known
  rw [List.filter_cons_of_neg (by rw [e]; simp), List.filter_nil, List.append_nil]
theorem Good.init (g : Good (P ++ [x])) : Good P where
  ok := fun y hy => g.ok y (List.mem_append_left _ hy)
  nd := by
    have z := g.nd
    rw [List.map_append] at z
    exact (List.nodup_append.mp z).1
  ord := (List.pairwise_append.mp g.ord).1
  cl := fun y hy h m hh h1 h2 => by
    obtain ⟨z, hz, e1, e2, q⟩ := g.cl y (List.mem_append_left _ hy) h m hh h1 h2
    refine ⟨z, ?_, e1, e2, q⟩
    rcases List.mem_append.mp hz with hz | hz
    · exact hz
    · exfalso
      have ez := List.mem_singleton.mp hz
      subst ez
      have w := (List.pairwise_append.mp g.ord).2.2 y hy z List.mem_cons_self
      unfold cnt at w
      have w := of_decide_eq_false w
      rw [e1, e2] at w
      exact w h2
  fit := fun y hy => by
    have z := g.fit y (List.mem_append_left _ hy)
    rw [g.past (List.mem_append_left _ hy)] at z
    exact z
theorem Good.last (g : Good (P ++ [x])) : FitsX (known P x.seen) x.act := by
  have z := g.fit x (List.mem_append_right _ List.mem_cons_self)
  rw [g.past (List.mem_append_right _ List.mem_cons_self)] at z
  exact z
theorem known_sub {c : List Int} (h : y ∈ known L c) : y ∈ L := (List.mem_filter.mp h).1
/-- what a new write names is there -/
theorem Good.lr (g : Good (P ++ [x])) {b : List Int} {l r : Option (List Int)} {m : Nat} (ha : x.act = .wr b l r m) : (∀ s, l = some s → s ∈ keys (tree P b)) ∧ ∀ s, r = some s → s ∈ keys (tree P b) := by
  have f := g.last
  rw [ha] at f
  obtain ⟨_, hg, _, _⟩ := f
  obtain ⟨h1, h2⟩ := gap_mem hg
  exact ⟨fun s e => tree_mono (fun _ h => known_sub h) (mem_line (h1 s e)), fun s e => tree_mono (fun _ h => known_sub h) (mem_line (h2 s e))⟩
theorem sg_inj {x y : Deed} {j k : Nat} (h : sg x j = sg y k) : x.id = y.id ∧ j = k := by
  unfold sg at h
  simp only [List.cons.injEq, and_true] at h
  exact ⟨id_eq.mpr ⟨h.1, h.2.1⟩, by omega⟩
theorem place_some (t : Tr) (l r : Option (List Int)) : (∀ p, (place t l r).1 = some p → l = some p ∨ r = some p) ∧ ((place t l r).1 = none → (place t l r).2 = false) := by
  unfold place
  cases r with
  | none => exact ⟨fun p h => .inl h, fun _ => rfl⟩
  | some r' =>
    dsimp only
    cases under t l r' with
    | true => exact ⟨fun p h => .inr h, fun h => (by cases h)⟩
    | false => exact ⟨fun p h => .inl h, fun _ => rfl⟩
theorem TB.hang {t : Tr} (B : TB t) {pl : Pl} (h3 : ∀ p, pl.1 = some p → p ∈ keys t) (h4 : pl.1 = none → pl.2 = false) : ∀ m, (∀ k, k < m → sg x k ∉ keys t) → TB (t ++ hang x pl m) := by
  intro m
  induction m with
  | zero =>
    intro _
    show TB (t ++ [])
    rw [List.append_nil]
    exact B
  | succ m ih =>
    intro hf
    have e : K20.hang x pl (m + 1) = K20.hang x pl m ++ [(sg x m, if m = 0 then pl else (some (sg x (m - 1)), false))] := by
      unfold K20.hang
      rw [List.range_succ, List.map_append]
      rfl
    have ek : keys (t ++ K20.hang x pl m) = keys t ++ (List.range m).map (sg x) := by
      rw [← hang_keys x pl m]
      exact List.map_append
    rw [e, ← List.append_assoc]
    refine TB.snoc (ih fun k hk => hf k (by omega)) ?_ (fun p hp => ?_) (fun hp => ?_)
    · rw [ek]
      intro h
      rcases List.mem_append.mp h with h | h
      · exact hf m (by omega) h
      · obtain ⟨k, hk, e⟩ := List.mem_map.mp h
        have := (sg_inj e).2
        have := List.mem_range.mp hk
        omega
    · rw [ek]
      by_cases h : m = 0
      · rw [if_pos h] at hp
        exact List.mem_append_left _ (h3 p hp)
      · rw [if_neg h] at hp
        cases hp
        exact List.mem_append_right _ (List.mem_map.mpr ⟨m - 1, List.mem_range.mpr (by omega), rfl⟩)
    · by_cases h : m = 0
      · rw [if_pos h] at hp ⊢
        exact h4 hp
      · rw [if_neg h] at hp
        cases hp
theorem Good.fresh (g : Good (P ++ [x])) {b : List Int} (k : Nat) : sg x k ∉ keys (tree P b) := fun h => by
  obtain ⟨y, hy, _, _, _, j, _, _, e⟩ := mem_tree.mp h
  have z := nd_inj g.nd (List.mem_append_right _ List.mem_cons_self) (List.mem_append_left _ hy) (sg_inj e).1
  have w := g.nd
  rw [List.map_append] at w
  exact (List.nodup_append.mp w).2.2 _ (List.mem_map.mpr ⟨y, hy, rfl⟩) _ (List.mem_map.mpr ⟨x, List.mem_cons_self, rfl⟩) (sg_inj e).1.symm
theorem Good.tb (g : Good L) (b : List Int) : TB (tree L b) := by
  revert g
  refine snoc_ind (m := fun L => Good L → TB (tree L b)) (fun _ => .nil) (fun P x ih g => ?_) L
  have B := ih g.init
  rw [tree_snoc]
  unfold stepT
  cases ha : x.act with
  | bk c => exact B
  | wr b' l r m =>
    show TB (if b' = b then _ else _)
    by_cases hb : b' = b
    · rw [if_pos hb]
      subst hb
      obtain ⟨h1, h2⟩ := g.lr ha
      obtain ⟨p1, p2⟩ := place_some (tree P b') l r
      exact B.hang (fun p hp => (p1 p hp).elim (h1 p) (h2 p)) p2 m fun k _ => g.fresh k
    · rw [if_neg hb]
      exact B
/-- a part that is closed -/
theorem Good.part (g : Good L) {c : List Int} (hc : ∀ y ∈ L, cnt c y = true → Le4 y.seen c) : Good (known L c) where
  ok := fun y hy => g.ok y (known_sub hy)
  nd := List.Nodup.sublist (List.Sublist.map _ List.filter_sublist) g.nd
  ord := g.ord.filter _
  cl := fun y hy h m hh h1 h2 => by
    obtain ⟨z, hz, e1, e2, q⟩ := g.cl y (known_sub hy) h m hh h1 h2
    refine ⟨z, List.mem_filter.mpr ⟨hz, ?_⟩, e1, e2, q⟩
    have w := hc y (known_sub hy) (List.mem_filter.mp hy).2
    unfold cnt
    rw [e1, e2]
    have := w h hh
    exact decide_eq_true (by omega)
  fit := fun y hy => by
    have z := g.fit y (known_sub hy)
    have w := hc y (known_sub hy) (List.mem_filter.mp hy).2
    have e : known (known L c) y.seen = known L y.seen := by
      unfold known
      rw [List.filter_filter]
      refine List.filter_congr fun u hu => ?_
      cases q : cnt y.seen u with
      | false => rfl
      | true => rw [cnt_le w (g.ok u hu).hand q]; rfl
    rw [e]
    exact z
theorem Good.closed (g : Good L) (hx : x ∈ L) : ∀ y ∈ L, cnt x.seen y = true → Le4 y.seen x.seen := fun y hy q => by
  have o := g.ok y hy
  obtain ⟨z, hz, e1, e2, w⟩ := g.cl x hx y.h y.n o.hand o.n1 (of_decide_eq_true q)
  have e := nd_inj g.nd hz hy (id_eq.mpr ⟨e1, e2⟩)
  rw [← e]
  exact w
theorem Good.seen (g : Good L) (hx : x ∈ L) : Good (known L x.seen) := g.part (g.closed hx)
end
/-! ### the same deeds in another order -/
inductive AncP (f : List Int → Option Pl) (a : List Int) : List Int → Prop
  | one {s : List Int} {sd : Bool} : f s = some (some a, sd) → AncP f a s
  | more {s p : List Int} {sd : Bool} : f s = some (some p, sd) → AncP f a p → AncP f a s
theorem ancP_congr {f g : List Int → Option Pl} {a : List Int} (Z : List Int → Prop) (h1 : ∀ s, Z s → f s = g s) (h2 : ∀ s p sd, Z s → f s = some (some p, sd) → Z p) : ∀ s, Z s → AncP f a s → AncP g a s := fun s hs h => by
  induction h with
  | one e => exact .one (by rw [← h1 _ hs]; exact e)
  | more e _ ih => exact .more (by rw [← h1 _ hs]; exact e) (ih (h2 _ _ _ hs e))
theorem anc_congr {f g : List Int → Option Pl} {a : List Int} (Z : List Int → Prop) (h1 : ∀ s, Z s → f s = g s) (h2 : ∀ s p sd, Z s → f s = some (some p, sd) → Z p) : ∀ n s, Z s → anc f n a s = anc g n a s := fun n => by
  induction n with
  | zero => exact fun _ _ => rfl
  | succ n ih =>
    intro s hs
    unfold anc
    rw [← h1 s hs]
    cases e : f s with
    | none => rfl
    | some pl =>
      obtain ⟨p, sd⟩ := pl
      cases p with
      | none => rfl
      | some p =>
        show (decide (p = a) || anc f n a p) = (decide (p = a) || anc g n a p)
        rw [ih p (h2 s p sd hs e)]
theorem lu_snoc_old {t : Tr} {s c : List Int} {pl : Pl} (h : c ∈ keys t) : lu (t ++ [(s, pl)]) c = lu t c := by
  obtain ⟨g, e⟩ := lu_some (t := t) h
  rw [lu_app, e]
  rfl
theorem lu_snoc_new {t : Tr} {s : List Int} {pl : Pl} (h : s ∉ keys t) : lu (t ++ [(s, pl)]) s = some pl := by
  rw [lu_app, lu_none.mpr h]
  show lu [(s, pl)] s = some pl
  unfold lu
  rw [if_pos rfl]
theorem TB.cls {t : Tr} (B : TB t) : ∀ s p sd, s ∈ keys t → lu t s = some (some p, sd) → p ∈ keys t := fun s p sd _ e => B.par _ _ _ (lu_mem e)
theorem anc_iff {t : Tr} (B : TB t) (a : List Int) : ∀ s ∈ keys t, ∀ n, t.length ≤ n → (anc (lu t) n a s = true ↔ AncP (lu t) a s) := by
  induction B with
  | nil => exact fun s h => by cases h
  | @snoc t s0 pl B h2 h3 h4 ih =>
    have key : ∀ s ∈ keys t, ∀ n, t.length ≤ n → (anc (lu (t ++ [(s0, pl)])) n a s = true ↔ AncP (lu (t ++ [(s0, pl)])) a s) := fun s hs n hn => by
      have c1 : ∀ c, c ∈ keys t → lu t c = lu (t ++ [(s0, pl)]) c := fun c hc => (lu_snoc_old hc).symm
      have c2 : ∀ c p sd, c ∈ keys t → lu (t ++ [(s0, pl)]) c = some (some p, sd) → p ∈ keys t := fun c p sd hc e => B.cls c p sd hc (by rw [c1 c hc]; exact e)
      rw [← anc_congr (fun c => c ∈ keys t) c1 B.cls n s hs, ih s hs n hn]
      exact ⟨ancP_congr (fun c => c ∈ keys t) c1 B.cls s hs, ancP_congr (fun c => c ∈ keys t) (fun c hc => (c1 c hc).symm) c2 s hs⟩
    intro s hs n hn
    rw [List.length_append, List.length_singleton] at hn
    have hs' : s ∈ keys t ∨ s = s0 := by
      unfold keys at hs
      rw [List.map_append] at hs
      rcases List.mem_append.mp hs with hs | hs
      · exact .inl hs
      · exact .inr (List.mem_singleton.mp hs)
    rcases hs' with hs | rfl
    · exact key s hs n (by omega)
    · cases n with
      | zero => omega
      | succ n =>
        have e := lu_snoc_new (pl := pl) h2
        unfold anc
        rw [e]
        obtain ⟨p, sd⟩ := pl
        cases p with
        | none =>
          refine ⟨fun h => (by cases h), fun h => ?_⟩
          cases h with
          | one q => rw [e] at q; cases q
          | more q _ => rw [e] at q; cases q
        | some p =>
          show (decide (p = a) || anc (lu (t ++ [(s, (some p, sd))])) n a p) = true ↔ _
          rw [Bool.or_eq_true, key p (h3 p rfl) n (by omega), decide_eq_true_eq]
          constructor
          · rintro (rfl | h)
            · exact .one e
            · exact .more e h
          · intro h
            cases h with
            | one q => rw [e] at q; cases q; exact .inl rfl
            | more q h => rw [e] at q; cases q; exact .inr h
end K20
namespace K20
theorem fold_app (b : List Int) : ∀ (R : List Deed) (t : Tr), ∃ u, R.foldl (stepT b) t = t ++ u
  | [], t => ⟨[], (List.append_nil t).symm⟩
  | x :: R, t => by
    have h : ∃ v, stepT b t x = t ++ v := by
      unfold stepT
      cases x.act with
      | bk c => exact ⟨[], (List.append_nil t).symm⟩
      | wr b' l r m =>
        show ∃ v, (if b' = b then _ else _) = t ++ v
        by_cases hb : b' = b
        · exact ⟨_, if_pos hb⟩
        · exact ⟨[], by rw [if_neg hb, List.append_nil]⟩
    obtain ⟨v, hv⟩ := h
    obtain ⟨u, hu⟩ := fold_app b R (stepT b t x)
    exact ⟨v ++ u, by rw [List.foldl_cons, hu, hv, List.append_assoc]⟩
theorem lu_ext (P R : List Deed) (b : List Int) {s : List Int} (h : s ∈ keys (tree P b)) : lu (tree (P ++ R) b) s = lu (tree P b) s := by
  have e : tree (P ++ R) b = R.foldl (stepT b) (tree P b) := List.foldl_append
  obtain ⟨u, hu⟩ := fold_app b R (tree P b)
  rw [e, hu, lu_app]
  obtain ⟨g, hg⟩ := lu_some (t := tree P b) h
  rw [hg]
  rfl
def underP (f : List Int → Option Pl) : Option (List Int) → List Int → Prop
  | none, _ => True
  | some l', r' => AncP f l' r'
def PlaceIs (f : List Int → Option Pl) (l r : Option (List Int)) (pl : Pl) : Prop :=
  match r with
  | none => pl = (l, false)
  | some r' => (underP f l r' ∧ pl = (some r', true)) ∨ (¬ underP f l r' ∧ pl = (l, false))
theorem place_is {t : Tr} (B : TB t) {l r : Option (List Int)} (h : ∀ s, r = some s → s ∈ keys t) : PlaceIs (lu t) l r (place t l r) := by
  cases r with
  | none => exact rfl
  | some r' =>
    have e : under t l r' = true ↔ underP (lu t) l r' := by
      cases l with
      | none => exact ⟨fun _ => True.intro, fun _ => rfl⟩
      | some l' => exact anc_iff B l' r' (h r' rfl) _ (Nat.le_succ _)
    show (_ ∧ (if under t l r' = true then ((some r', true) : Pl) else (l, false)) = _) ∨ (_ ∧ (if under t l r' = true then ((some r', true) : Pl) else (l, false)) = _)
    by_cases q : under t l r' = true
    · exact .inl ⟨e.mp q, if_pos q⟩
    · exact .inr ⟨fun z => q (e.mpr z), if_neg q⟩
theorem PlaceIs.congr {f g : List Int → Option Pl} {l r : Option (List Int)} {pl : Pl} (h : PlaceIs f l r pl) (e : ∀ a r', r = some r' → (AncP f a r' ↔ AncP g a r')) : PlaceIs g l r pl := by
  cases r with
  | none => exact h
  | some r' =>
    have q : underP f l r' ↔ underP g l r' := by
      cases l with
      | none => exact Iff.rfl
      | some l' => exact e l' r' rfl
    exact h.elim (fun ⟨a, b⟩ => .inl ⟨q.mp a, b⟩) fun ⟨a, b⟩ => .inr ⟨fun z => a (q.mpr z), b⟩
theorem PlaceIs.uniq {f : List Int → Option Pl} {l r : Option (List Int)} {p q : Pl} (h : PlaceIs f l r p) (k : PlaceIs f l r q) : p = q := by
  cases r with
  | none => exact Eq.trans h (Eq.symm k)
  | some r' =>
    rcases h with ⟨a, b⟩ | ⟨a, b⟩
    · rcases k with ⟨c, d⟩ | ⟨c, d⟩
      · rw [b, d]
      · exact absurd a c
    · rcases k with ⟨c, d⟩ | ⟨c, d⟩
      · exact absurd c a
      · rw [b, d]
theorem Good.take {P R : List Deed} (g : Good (P ++ R)) : Good P := by
  revert g
  refine snoc_ind (m := fun R => Good (P ++ R) → Good P) (fun g => by rw [List.append_nil] at g; exact g) (fun R x ih g => ?_) R
  rw [← List.append_assoc] at g
  exact ih g.init
theorem lu_hang {t : Tr} {x : Deed} {pl : Pl} {m : Nat} (hf : ∀ k, sg x k ∉ keys t) {k : Nat} (hk : k < m) : lu (t ++ hang x pl m) (sg x k) = some (if k = 0 then pl else (some (sg x (k - 1)), false)) := by
  rw [lu_app, lu_none.mpr (hf k)]
  show lu (hang x pl m) (sg x k) = _
  refine mem_lu ?_ ?_
  · show (keys (hang x pl m)).Nodup
    rw [hang_keys]
    unfold List.Nodup
    rw [List.pairwise_map]
    exact List.nodup_range.imp fun {a b} h e => h (sg_inj e).2
  · exact List.mem_map.mpr ⟨k, List.mem_range.mpr hk, rfl⟩
section
variable {L : List Deed}
/-- where a write's signs hang -/
theorem Good.at (g : Good L) {x : Deed} (hx : x ∈ L) {b : List Int} {l r : Option (List Int)} {m : Nat} (ha : x.act = .wr b l r m) :
    (∀ k, 0 < k → k < m → lu (tree L b) (sg x k) = some (some (sg x (k - 1)), false)) ∧ ∃ pl, lu (tree L b) (sg x 0) = some pl ∧ PlaceIs (lu (tree L b)) l r pl := by
  revert g hx
  refine snoc_ind (m := fun L => Good L → x ∈ L → (∀ k, 0 < k → k < m → lu (tree L b) (sg x k) = some (some (sg x (k - 1)), false)) ∧ ∃ pl, lu (tree L b) (sg x 0) = some pl ∧ PlaceIs (lu (tree L b)) l r pl) (fun _ h => by cases h) (fun P y ih g hx => ?_) L
  have f := g.fit x hx
  rw [ha] at f
  have hm : 1 ≤ m := f.2.2.1
  rcases List.mem_append.mp hx with hx | hx
  · obtain ⟨h1, pl, h2, h3⟩ := ih g.init hx
    have k0 : ∀ k, k < m → sg x k ∈ keys (tree P b) := fun k hk => mem_tree.mpr ⟨x, hx, l, r, m, k, ha, hk, rfl⟩
    refine ⟨fun k a c => by rw [lu_ext P [y] b (k0 k c)]; exact h1 k a c, pl, by rw [lu_ext P [y] b (k0 0 (by omega))]; exact h2, h3.congr fun a r' er => ?_⟩
    have B := g.init.tb b
    have c1 : ∀ c, c ∈ keys (tree P b) → lu (tree P b) c = lu (tree (P ++ [y]) b) c := fun c hc => (lu_ext P [y] b hc).symm
    have hr : r' ∈ keys (tree P b) := by
      have f' := g.init.fit x hx
      rw [ha] at f'
      exact tree_mono (fun _ h => known_sub h) (mem_line ((gap_mem f'.2.1).2 r' er))
    exact ⟨ancP_congr (fun c => c ∈ keys (tree P b)) c1 B.cls r' hr, ancP_congr (fun c => c ∈ keys (tree P b)) (fun c hc => (c1 c hc).symm) (fun c p sd hc e => B.cls c p sd hc (by rw [c1 c hc]; exact e)) r' hr⟩
  · have e := List.mem_singleton.mp hx
    subst e
    have B := g.init.tb b
    have et : tree (P ++ [x]) b = tree P b ++ hang x (place (tree P b) l r) m := by
      rw [tree_snoc]
      unfold stepT
      rw [ha]
      exact if_pos rfl
    have hf : ∀ k, sg x k ∉ keys (tree P b) := fun k => g.fresh k
    obtain ⟨hl, hr⟩ := g.lr ha
    refine ⟨fun k a c => ?_, place (tree P b) l r, ?_, ?_⟩
    · rw [et, lu_hang hf c, if_neg (by omega)]
    · rw [et, lu_hang hf (by omega), if_pos rfl]
    · refine (place_is B hr).congr fun a r' er => ?_
      have c1 : ∀ c, c ∈ keys (tree P b) → lu (tree P b) c = lu (tree (P ++ [x]) b) c := fun c hc => (lu_ext P [x] b hc).symm
      exact ⟨ancP_congr (fun c => c ∈ keys (tree P b)) c1 B.cls r' (hr r' er), ancP_congr (fun c => c ∈ keys (tree P b)) (fun c hc => (c1 c hc).symm) (fun c p sd hc e => B.cls c p sd hc (by rw [c1 c hc]; exact e)) r' (hr r' er)⟩
theorem same_lu {M : List Deed} (g : Good L) (g' : Good M) (h : ∀ x, x ∈ L ↔ x ∈ M) (b : List Int) (s : List Int) : lu (tree L b) s = lu (tree M b) s := by
  have main : ∀ P R, L = P ++ R → ∀ x ∈ P, ∀ l r m, x.act = .wr b l r m → lu (tree L b) (sg x 0) = lu (tree M b) (sg x 0) := fun P => by
    refine snoc_ind (m := fun P => ∀ R, L = P ++ R → ∀ x ∈ P, ∀ l r m, x.act = .wr b l r m → lu (tree L b) (sg x 0) = lu (tree M b) (sg x 0)) (fun _ _ x h => by cases h) (fun P y ih R eL x hx l r m ha => ?_) P
    rw [List.append_assoc] at eL
    have ih := ih _ eL
    rcases List.mem_append.mp hx with hx | hx
    · exact ih x hx l r m ha
    · have e := List.mem_singleton.mp hx
      subst e
      have gP : Good (P ++ [x]) := by
        rw [eL, ← List.append_assoc] at g
        exact g.take
      have hxL : x ∈ L := by rw [eL]; exact List.mem_append_right _ List.mem_cons_self
      obtain ⟨_, p1, e1, i1⟩ := g.at hxL ha
      obtain ⟨_, p2, e2, i2⟩ := g'.at ((h x).mp hxL) ha
      have c0 : ∀ c, c ∈ keys (tree P b) → lu (tree L b) c = lu (tree P b) c := fun c hc => by rw [eL]; exact lu_ext P _ b hc
      have c1 : ∀ c, c ∈ keys (tree P b) → lu (tree L b) c = lu (tree M b) c := fun c hc => by
        obtain ⟨y, hy, l', r', m', k, ha', hk, es⟩ := mem_tree.mp hc
        rw [es]
        have hyL : y ∈ L := by rw [eL]; exact List.mem_append_left _ hy
        by_cases hk0 : k = 0
        · rw [hk0]
          exact ih y hy l' r' m' ha'
        · rw [(g.at hyL ha').1 k (by omega) hk, (g'.at ((h y).mp hyL) ha').1 k (by omega) hk]
      have B := gP.init.tb b
      have c2 : ∀ c p sd, c ∈ keys (tree P b) → lu (tree L b) c = some (some p, sd) → p ∈ keys (tree P b) := fun c p sd hc e => B.cls c p sd hc (by rw [← c0 c hc]; exact e)
      have hr := (gP.lr ha).2
      have q : PlaceIs (lu (tree M b)) l r p1 := i1.congr fun a r' er =>
        ⟨ancP_congr (fun c => c ∈ keys (tree P b)) c1 c2 r' (hr r' er), ancP_congr (fun c => c ∈ keys (tree P b)) (fun c hc => (c1 c hc).symm) (fun c p sd hc e => c2 c p sd hc (by rw [c1 c hc]; exact e)) r' (hr r' er)⟩
      rw [e1, e2, q.uniq i2]
  by_cases hs : s ∈ keys (tree L b)
  · obtain ⟨y, hy, l', r', m', k, ha', hk, es⟩ := mem_tree.mp hs
    rw [es]
    by_cases hk0 : k = 0
    · rw [hk0]
      exact main L [] (List.append_nil L).symm y hy l' r' m' ha'
    · rw [(g.at hy ha').1 k (by omega) hk, (g'.at ((h y).mp hy) ha').1 k (by omega) hk]
  · have hs' : s ∉ keys (tree M b) := fun z => hs (tree_mono (fun x hx => (h x).mpr hx) z)
    rw [lu_none.mpr hs, lu_none.mpr hs']
end
theorem same_keys {L M : List Deed} (g : Good L) (g' : Good M) (h : ∀ x, x ∈ L ↔ x ∈ M) (b : List Int) : (keys (tree L b)).Perm (keys (tree M b)) :=
  (List.perm_ext_iff_of_nodup (g.tb b).nd (g'.tb b).nd).mpr fun s => ⟨tree_mono fun x hx => (h x).mp hx, tree_mono fun x hx => (h x).mpr hx⟩
/-- trees with the same look-ups have the same rows -/
theorem kids_congr {t u : Tr} (nt : (keys t).Nodup) (nu : (keys u).Nodup) (h : ∀ s, lu t s = lu u s) (p : Option (List Int)) (sd : Bool) : kids t p sd = kids u p sd := by
  have k : ∀ {t u : Tr}, (keys t).Nodup → (keys u).Nodup → (∀ s, lu t s = lu u s) → ∀ s, s ∈ kids t p sd → s ∈ kids u p sd := fun {t u} nt nu h s hs => by
    have e := mem_lu (t := t) nt (mem_kids.mp hs)
    rw [h] at e
    exact mem_kids.mpr (lu_mem e)
  exact sorted_eq (sortI_sorted _) (sortI_sorted _) ((List.perm_ext_iff_of_nodup (kids_nd nt p sd) (kids_nd nu p sd)).mpr fun s => ⟨k nt nu h s, k nu nt (fun s => (h s).symm) s⟩)
theorem run_congr {t u : Tr} (h : ∀ p sd, kids t p sd = kids u p sd) : ∀ n st out, run t n st out = run u n st out
  | 0, _, _ => rfl
  | n + 1, [], _ => rfl
  | n + 1, (s, true) :: st, out => by
    show run t n _ out = run u n _ out
    rw [h, h]
    exact run_congr h n _ _
  | n + 1, (s, false) :: st, out => run_congr h n st _
theorem row_congr {t u : Tr} (nt : (keys t).Nodup) (nu : (keys u).Nodup) (h : ∀ s, lu t s = lu u s) (hl : t.length = u.length) : rowOf t = rowOf u := by
  have k := kids_congr nt nu h
  unfold rowOf
  rw [k, hl]
  exact run_congr k _ _ _
theorem line_congr {L M : List Deed} (g : Good L) (g' : Good M) (h : ∀ x, x ∈ L ↔ x ∈ M) (b : List Int) : line L b = line M b :=
  row_congr (g.tb b).nd (g'.tb b).nd (same_lu g g' h b) (by
    have z := (same_keys g g' h b).length_eq
    unfold keys at z
    rw [List.length_map, List.length_map] at z
    exact z)
end K20
namespace K20
/-! ### the program's tree: all blocks in one -/
abbrev PlC := List Int × Bool
abbrev TrC := List (List Int × PlC)
def ancC (f : List Int → Option PlC) : Nat → List Int → List Int → Bool
  | 0, _, _ => false
  | n + 1, a, s => match f s with
    | some (p, _) => decide (p = a) || ancC f n a p
    | none => false
def underC (t : TrC) (l : Option (List Int)) (r' : List Int) : Bool :=
  match l with
  | none => true
  | some l' => ancC (lu t) (t.length + 1) l' r'
def placeC (t : TrC) (b : List Int) (l r : Option (List Int)) : PlC :=
  match r with
  | none => (l.getD b, false)
  | some r' => if underC t l r' = true then (r', true) else (l.getD b, false)
def hangC (x : Deed) (p : PlC) (m : Nat) : TrC := (List.range m).map fun k => (sg x k, if k = 0 then p else (sg x (k - 1), false))
def stepC (t : TrC) (x : Deed) : TrC :=
  match x.act with
  | .wr b l r m => t ++ hangC x (placeC t b l r) m
  | .bk _ => t
def ctree (L : List Deed) : TrC := L.foldl stepC []
def keysC (t : TrC) : List (List Int) := t.map (·.1)
theorem ctree_snoc (P : List Deed) (x : Deed) : ctree (P ++ [x]) = stepC (ctree P) x := by
  unfold ctree
  rw [List.foldl_append]
  rfl
theorem hangC_keys (x : Deed) (p : PlC) (m : Nat) : keysC (hangC x p m) = (List.range m).map (sg x) := by
  unfold keysC hangC
  rw [List.map_map]
  rfl
theorem sg_len (x : Deed) (k : Nat) : (sg x k).length = 3 := rfl
theorem key_len {L : List Deed} {b s : List Int} (h : s ∈ keys (tree L b)) : s.length = 3 := by
  obtain ⟨x, _, _, _, _, k, _, _, rfl⟩ := mem_tree.mp h
  rfl
theorem block_len {L : List Deed} {b : List Int} (h : IsBlock L b) : b.length = 2 := by
  rcases h with rfl | ⟨y, _, rfl, _⟩ <;> rfl
theorem mem_ctree {L : List Deed} {s : List Int} : s ∈ keysC (ctree L) ↔ ∃ b, s ∈ keys (tree L b) := by
  refine snoc_ind (m := fun L => s ∈ keysC (ctree L) ↔ ∃ b, s ∈ keys (tree L b)) ?_ (fun P x ih => ?_) L
  · exact ⟨fun h => (by cases h), fun ⟨b, h⟩ => (by cases h)⟩
  · rw [ctree_snoc]
    have eb : ∀ b, s ∈ keys (tree (P ++ [x]) b) ↔ s ∈ keys (tree P b) ∨ ∃ l r m k, x.act = .wr b l r m ∧ k < m ∧ s = sg x k := fun b => by
      rw [mem_tree, mem_tree]
      constructor
      · rintro ⟨y, hy, q⟩
        rcases List.mem_append.mp hy with hy | hy
        · exact .inl ⟨y, hy, q⟩
        · rw [List.mem_singleton.mp hy] at q
          exact .inr q
      · rintro (⟨y, hy, q⟩ | q)
        · exact ⟨y, List.mem_append_left _ hy, q⟩
        · exact ⟨x, List.mem_append_right _ List.mem_cons_self, q⟩
    have e2 : (∃ b, s ∈ keys (tree (P ++ [x]) b)) ↔ s ∈ keysC (ctree P) ∨ ∃ b l r m k, x.act = .wr b l r m ∧ k < m ∧ s = sg x k := by
      rw [ih]
      constructor
      · rintro ⟨b, h⟩
        exact ((eb b).mp h).elim (fun h => .inl ⟨b, h⟩) fun h => .inr ⟨b, h⟩
      · rintro (⟨b, h⟩ | ⟨b, h⟩)
        · exact ⟨b, (eb b).mpr (.inl h)⟩
        · exact ⟨b, (eb b).mpr (.inr h)⟩
    rw [e2]
    unfold stepC
    cases ha : x.act with
    | bk c => exact ⟨fun h => .inl h, fun h => h.elim id fun ⟨_, _, _, _, _, e, _⟩ => (by cases e)⟩
    | wr b l r m =>
      have ek : keysC (ctree P ++ hangC x (placeC (ctree P) b l r) m) = keysC (ctree P) ++ (List.range m).map (sg x) := by
        rw [← hangC_keys x (placeC (ctree P) b l r) m]
        exact List.map_append
      show s ∈ keysC (ctree P ++ hangC x (placeC (ctree P) b l r) m) ↔ _
      rw [ek, List.mem_append]
      refine or_congr Iff.rfl ⟨fun h => ?_, fun ⟨_, _, _, _, k, e, hk, es⟩ => ?_⟩
      · obtain ⟨k, hk, rfl⟩ := List.mem_map.mp h
        exact ⟨b, l, r, m, k, rfl, List.mem_range.mp hk, rfl⟩
      · cases e
        exact List.mem_map.mpr ⟨k, List.mem_range.mpr hk, es.symm⟩
theorem ctree_len {L : List Deed} {s : List Int} (h : s ∈ keysC (ctree L)) : s.length = 3 := by
  obtain ⟨b, hb⟩ := mem_ctree.mp h
  exact key_len hb
theorem luC_none {L : List Deed} {b : List Int} (h : b.length = 2) : lu (ctree L) b = none := lu_none.mpr fun z => by
  have q := ctree_len z
  omega
def liftP (b : List Int) (p : Pl) : PlC := (p.1.getD b, p.2)
/-- climbing is the same in both -/
theorem ancC_eq {L : List Deed} {b : List Int} (B : TB (tree L b)) (hb : b.length = 2) (hl : ∀ s pl, lu (tree L b) s = some pl → lu (ctree L) s = some (liftP b pl)) {a : List Int} (ha : a.length = 3) :
    ∀ n s, s ∈ keys (tree L b) → ancC (lu (ctree L)) n a s = anc (lu (tree L b)) n a s := by
  intro n
  induction n with
  | zero => exact fun _ _ => rfl
  | succ n ih =>
    intro s hs
    obtain ⟨pl, e⟩ := lu_some (t := tree L b) hs
    have e2 := hl s pl e
    unfold ancC anc
    rw [e, e2]
    obtain ⟨p, sd⟩ := pl
    cases p with
    | none =>
      show (decide (b = a) || ancC (lu (ctree L)) n a b) = false
      have h1 : decide (b = a) = false := decide_eq_false fun z => by rw [z] at hb; omega
      have h2 : ancC (lu (ctree L)) n a b = false := by
        cases n with
        | zero => rfl
        | succ n =>
          unfold ancC
          rw [luC_none hb]
      rw [h1, h2]
      rfl
    | some p =>
      show (decide (p = a) || ancC (lu (ctree L)) n a p) = (decide (p = a) || anc (lu (tree L b)) n a p)
      rw [ih p (B.par _ _ _ (lu_mem e))]
theorem luC_hang {t : TrC} {x : Deed} {pl : PlC} {m : Nat} (hf : ∀ k, sg x k ∉ keysC t) {k : Nat} (hk : k < m) : lu (t ++ hangC x pl m) (sg x k) = some (if k = 0 then pl else (sg x (k - 1), false)) := by
  rw [lu_app, lu_none.mpr (hf k)]
  show lu (hangC x pl m) (sg x k) = _
  refine mem_lu ?_ ?_
  · show (keysC (hangC x pl m)).Nodup
    rw [hangC_keys]
    unfold List.Nodup
    rw [List.pairwise_map]
    exact List.nodup_range.imp fun {a b} h e => h (sg_inj e).2
  · exact List.mem_map.mpr ⟨k, List.mem_range.mpr hk, rfl⟩
theorem fit_block {S : List Deed} {b : List Int} {l r : Option (List Int)} {m : Nat} (h : FitsX S (.wr b l r m)) : b.length = 2 := block_len h.1
theorem placeC_eq {P : List Deed} (g : Good P) {b : List Int} (hb : b.length = 2) (hl : ∀ s pl, lu (tree P b) s = some pl → lu (ctree P) s = some (liftP b pl)) {l r : Option (List Int)} (h1 : ∀ s, l = some s → s ∈ keys (tree P b)) (h2 : ∀ s, r = some s → s ∈ keys (tree P b)) :
    placeC (ctree P) b l r = liftP b (place (tree P b) l r) := by
  have B := g.tb b
  have hlen : (tree P b).length ≤ (ctree P).length := by
    have z := List.Nodup.length_le_of_subset (l₂ := keysC (ctree P)) B.nd fun s hs => mem_ctree.mpr ⟨b, hs⟩
    unfold keys keysC at z
    rw [List.length_map, List.length_map] at z
    exact z
  cases r with
  | none => rfl
  | some r' =>
    have e : underC (ctree P) l r' = under (tree P b) l r' := by
      cases l with
      | none => rfl
      | some l' =>
        show ancC (lu (ctree P)) ((ctree P).length + 1) l' r' = anc (lu (tree P b)) ((tree P b).length + 1) l' r'
        rw [ancC_eq B hb hl (key_len (h1 l' rfl)) _ r' (h2 r' rfl)]
        have q1 := anc_iff B l' r' (h2 r' rfl) ((ctree P).length + 1) (by omega)
        have q2 := anc_iff B l' r' (h2 r' rfl) ((tree P b).length + 1) (by omega)
        rw [Bool.eq_iff_iff, q1, q2]
    unfold placeC place
    show (if underC (ctree P) l r' = true then ((r', true) : PlC) else (l.getD b, false)) = liftP b (if under (tree P b) l r' = true then (some r', true) else (l, false))
    rw [e]
    by_cases q : under (tree P b) l r' = true
    · rw [if_pos q, if_pos q]; rfl
    · rw [if_neg q, if_neg q]; rfl
theorem Good.lift {L : List Deed} (g : Good L) : ∀ b s pl, lu (tree L b) s = some pl → lu (ctree L) s = some (liftP b pl) := by
  revert g
  refine snoc_ind (m := fun L => Good L → ∀ b s pl, lu (tree L b) s = some pl → lu (ctree L) s = some (liftP b pl)) (fun _ _ _ _ h => by cases h) (fun P x ih g => ?_) L
  have ih := ih g.init
  intro b s pl h
  have hs : s ∈ keys (tree (P ++ [x]) b) := lu_key h
  rw [ctree_snoc]
  have old : s ∈ keys (tree P b) → ∀ u : TrC, lu (ctree P ++ u) s = some (liftP b pl) := fun hs u => by
    rw [lu_ext P [x] b hs] at h
    rw [lu_app, ih b s pl h]
    rfl
  unfold stepC
  cases ha : x.act with
  | bk c =>
    have e : tree (P ++ [x]) b = tree P b := by
      rw [tree_snoc]
      unfold stepT
      rw [ha]
    rw [e] at hs
    have z := old hs []
    rw [List.append_nil] at z
    exact z
  | wr b' l r m =>
    show lu (ctree P ++ hangC x (placeC (ctree P) b' l r) m) s = _
    by_cases hb : b' = b
    · subst hb
      have et : tree (P ++ [x]) b' = tree P b' ++ hang x (place (tree P b') l r) m := by
        rw [tree_snoc]
        unfold stepT
        rw [ha]
        exact if_pos rfl
      by_cases hs0 : s ∈ keys (tree P b')
      · exact old hs0 _
      · rw [et] at hs h
        have ek : keys (tree P b' ++ hang x (place (tree P b') l r) m) = keys (tree P b') ++ (List.range m).map (sg x) := by
          rw [← hang_keys x (place (tree P b') l r) m]
          exact List.map_append
        rw [ek] at hs
        rcases List.mem_append.mp hs with hs | hs
        · exact absurd hs hs0
        · obtain ⟨k, hk, rfl⟩ := List.mem_map.mp hs
          have hk := List.mem_range.mp hk
          rw [lu_hang (fun j => g.fresh j) hk] at h
          have hfc : ∀ j, sg x j ∉ keysC (ctree P) := fun j z => by
            obtain ⟨b0, z⟩ := mem_ctree.mp z
            exact g.fresh j z
          obtain ⟨h1, h2⟩ := g.lr ha
          have hf := g.last
          rw [ha] at hf
          rw [luC_hang hfc hk, placeC_eq g.init (fit_block hf) (ih b') h1 h2]
          have h := Option.some.inj h
          rw [← h]
          by_cases hk0 : k = 0
          · rw [if_pos hk0, if_pos hk0]
          · rw [if_neg hk0, if_neg hk0]
            rfl
    · have e : tree (P ++ [x]) b = tree P b := by
        rw [tree_snoc]
        unfold stepT
        rw [ha]
        exact if_neg hb
      rw [e] at hs
      exact old hs _
theorem Good.nodC {L : List Deed} (g : Good L) : (keysC (ctree L)).Nodup := by
  revert g
  refine snoc_ind (m := fun L => Good L → (keysC (ctree L)).Nodup) (fun _ => List.nodup_nil) (fun P x ih g => ?_) L
  have ih := ih g.init
  rw [ctree_snoc]
  unfold stepC
  cases ha : x.act with
  | bk c => exact ih
  | wr b l r m =>
    show (keysC (ctree P ++ hangC x (placeC (ctree P) b l r) m)).Nodup
    have ek : keysC (ctree P ++ hangC x (placeC (ctree P) b l r) m) = keysC (ctree P) ++ (List.range m).map (sg x) := by
      rw [← hangC_keys x (placeC (ctree P) b l r) m]
      exact List.map_append
    rw [ek]
    refine List.nodup_append.mpr ⟨ih, ?_, fun s hs c hc e => ?_⟩
    · unfold List.Nodup
      rw [List.pairwise_map]
      exact List.nodup_range.imp fun {a b} h e => h (sg_inj e).2
    · obtain ⟨k, _, rfl⟩ := List.mem_map.mp hc
      subst e
      obtain ⟨b0, z⟩ := mem_ctree.mp hs
      exact g.fresh k z
/-- which blocks hold signs -/
theorem tree_block {L : List Deed} (g : Good L) {b s : List Int} (h : s ∈ keys (tree L b)) : IsBlock L b := by
  obtain ⟨x, hx, l, r, m, k, ha, _⟩ := mem_tree.mp h
  have f := g.fit x hx
  rw [ha] at f
  rcases f.1 with e | ⟨y, hy, e⟩
  · exact .inl e
  · exact .inr ⟨y, known_sub hy, e⟩
theorem one_block {L : List Deed} (g : Good L) {b c s : List Int} (h : s ∈ keys (tree L b)) (h' : s ∈ keys (tree L c)) : b = c := by
  obtain ⟨x, hx, l, r, m, k, ha, _, e⟩ := mem_tree.mp h
  obtain ⟨y, hy, l', r', m', k', ha', _, e'⟩ := mem_tree.mp h'
  rw [e] at e'
  have z := nd_inj g.nd hx hy (sg_inj e').1
  subst z
  rw [ha] at ha'
  cases ha'
  rfl
/-- back -/
theorem Good.drop {L : List Deed} (g : Good L) {s : List Int} {pc : PlC} (h : lu (ctree L) s = some pc) : ∃ b pl, IsBlock L b ∧ lu (tree L b) s = some pl ∧ pc = liftP b pl := by
  obtain ⟨b, hb⟩ := mem_ctree.mp (lu_key h)
  obtain ⟨pl, e⟩ := lu_some (t := tree L b) hb
  refine ⟨b, pl, tree_block g hb, e, ?_⟩
  rw [g.lift b s pl e] at h
  exact (Option.some.inj h).symm
/-- what hangs under a node -/
def below (t : TrC) (q : List Int) (sd : Bool) : List (List Int) := (sortI false (keysC t)).filter fun s => decide (lu t s = some (q, sd))
theorem below_sign {L : List Deed} (g : Good L) {b q : List Int} (hq : q.length = 3) (hqb : q ∈ keys (tree L b)) (sd : Bool) : below (ctree L) q sd = kids (tree L b) (some q) sd := by
  unfold below
  rw [sortI_filter]
  refine sortI_congr ((List.perm_ext_iff_of_nodup (List.Nodup.sublist List.filter_sublist g.nodC) (List.Nodup.sublist (List.Sublist.map _ List.filter_sublist) (g.tb b).nd)).mpr fun s => ?_)
  constructor
  · intro h
    obtain ⟨h1, h2⟩ := List.mem_filter.mp h
    have h2 := of_decide_eq_true h2
    obtain ⟨b', pl, _, e, ep⟩ := g.drop h2
    obtain ⟨p, sd'⟩ := pl
    unfold liftP at ep
    injection ep with e1 e2
    have e2 : sd = sd' := e2
    subst e2
    cases p with
    | none =>
      have e1 : q = b' := e1
      have := block_len (tree_block g (lu_key e))
      rw [e1] at hq
      omega
    | some p =>
      have e1 : q = p := e1
      subst e1
      have := one_block g hqb ((g.tb b').par _ _ _ (lu_mem e))
      subst this
      exact List.mem_map.mpr ⟨_, List.mem_filter.mpr ⟨lu_mem e, decide_eq_true rfl⟩, rfl⟩
  · intro h
    obtain ⟨e, he, rfl⟩ := List.mem_map.mp h
    obtain ⟨h1, h2⟩ := List.mem_filter.mp he
    obtain ⟨s, pl⟩ := e
    have h2 : pl = (some q, sd) := of_decide_eq_true h2
    subst h2
    have z := g.lift b s _ (mem_lu (g.tb b).nd h1)
    exact List.mem_filter.mpr ⟨lu_key z, decide_eq_true z⟩
theorem below_block {L : List Deed} (g : Good L) {b : List Int} (hb : b.length = 2) (sd : Bool) : below (ctree L) b sd = kids (tree L b) none sd := by
  unfold below
  rw [sortI_filter]
  refine sortI_congr ((List.perm_ext_iff_of_nodup (List.Nodup.sublist List.filter_sublist g.nodC) (List.Nodup.sublist (List.Sublist.map _ List.filter_sublist) (g.tb b).nd)).mpr fun s => ?_)
  constructor
  · intro h
    obtain ⟨h1, h2⟩ := List.mem_filter.mp h
    have h2 := of_decide_eq_true h2
    obtain ⟨b', pl, _, e, ep⟩ := g.drop h2
    obtain ⟨p, sd'⟩ := pl
    unfold liftP at ep
    injection ep with e1 e2
    have e2 : sd = sd' := e2
    subst e2
    cases p with
    | none =>
      have e1 : b = b' := e1
      subst e1
      exact List.mem_map.mpr ⟨_, List.mem_filter.mpr ⟨lu_mem e, decide_eq_true rfl⟩, rfl⟩
    | some p =>
      have e1 : b = p := e1
      have := key_len ((g.tb b').par _ _ _ (lu_mem e))
      rw [← e1] at this
      omega
  · intro h
    obtain ⟨e, he, rfl⟩ := List.mem_map.mp h
    obtain ⟨h1, h2⟩ := List.mem_filter.mp he
    obtain ⟨s, pl⟩ := e
    have h2 : pl = (none, sd) := of_decide_eq_true h2
    subst h2
    have z := g.lift b s _ (mem_lu (g.tb b).nd h1)
    exact List.mem_filter.mpr ⟨lu_key z, decide_eq_true z⟩
theorem no_left {L : List Deed} (g : Good L) (b : List Int) : kids (tree L b) none true = [] := by
  cases h : kids (tree L b) none true with
  | nil => rfl
  | cons s l =>
    have z := mem_kids.mp (h ▸ List.mem_cons_self : s ∈ kids (tree L b) none true)
    have := (g.tb b).top _ _ z rfl
    cases this
/-- the height of a climb -/
inductive Dep (f : List Int → Option PlC) : List Int → Nat → Prop
  | top {s : List Int} : f s = none → Dep f s 0
  | up {s p : List Int} {sd : Bool} {n : Nat} : f s = some (p, sd) → Dep f p n → Dep f s (n + 1)
theorem Good.dep {L : List Deed} (g : Good L) {s : List Int} (h : s ∈ keysC (ctree L)) : ∃ n, Dep (lu (ctree L)) s n := by
  obtain ⟨b, hb⟩ := mem_ctree.mp h
  have bl := block_len (tree_block g hb)
  have main : ∀ t0 : Tr, TB t0 → (∀ e ∈ t0, e ∈ tree L b) → ∀ s ∈ keys t0, ∃ n, Dep (lu (ctree L)) s n := fun t0 B0 => by
    induction B0 with
    | nil => exact fun _ s h => by cases h
    | @snoc t0 s0 pl h1 h2 h3 h4 ih =>
      intro sub c hc
      have ih := ih fun e he => sub e (List.mem_append_left _ he)
      unfold keys at hc
      rw [List.map_append] at hc
      rcases List.mem_append.mp hc with hc | hc
      · exact ih c hc
      · have e : c = s0 := List.mem_singleton.mp hc
        rw [e]
        have hm := sub (s0, pl) (List.mem_append_right _ List.mem_cons_self)
        have z := g.lift b s0 pl (mem_lu (g.tb b).nd hm)
        obtain ⟨p, sd⟩ := pl
        cases p with
        | none => exact ⟨1, .up z (.top (luC_none bl))⟩
        | some p =>
          obtain ⟨n, hn⟩ := ih p (h3 p rfl)
          exact ⟨n + 1, .up z hn⟩
  exact main _ (g.tb b) (fun _ h => h) s hb
/-- a climb that is high enough -/
theorem ancC_dep {f : List Int → Option PlC} {a s : List Int} {n : Nat} (h : Dep f s n) : ∀ N, n ≤ N → ancC f N a s = ancC f n a s := by
  induction h with
  | top e =>
    intro N _
    cases N with
    | zero => rfl
    | succ N => unfold ancC; rw [e]
  | @up s p sd n e _ ih =>
    intro N hN
    cases N with
    | zero => omega
    | succ N =>
      unfold ancC
      rw [e]
      show (decide (p = a) || ancC f N a p) = (decide (p = a) || ancC f n a p)
      rw [ih N (by omega)]
end K20
namespace K20
/-! ### the same deeds, turned -/
theorem isBlock_congr {L M : List Deed} (h : ∀ x, x ∈ L ↔ x ∈ M) (b : List Int) : IsBlock L b ↔ IsBlock M b :=
  or_congr Iff.rfl ⟨fun ⟨y, hy, q⟩ => ⟨y, (h y).mp hy, q⟩, fun ⟨y, hy, q⟩ => ⟨y, (h y).mpr hy, q⟩⟩
theorem fits_congr {L M : List Deed} (g : Good L) (g' : Good M) (h : ∀ x, x ∈ L ↔ x ∈ M) {a : Act} (f : FitsX L a) : FitsX M a := by
  cases a with
  | bk b => exact (isBlock_congr h b).mp f
  | wr b l r m =>
    obtain ⟨f1, f2, f3⟩ := f
    exact ⟨(isBlock_congr h b).mp f1, by rw [← line_congr g g' h b]; exact f2, f3⟩
theorem Good.perm {L M : List Deed} (g : Good L) (p : M.Perm L) (ord : M.Pairwise fun x y => cnt x.seen y = false) : Good M := by
  have hm : ∀ x, x ∈ M ↔ x ∈ L := fun x => p.mem_iff
  have ndM : (M.map Deed.id).Nodup := (p.map Deed.id).nodup_iff.mpr g.nd
  have main : ∀ P R, M = P ++ R → Good P := fun P => by
    refine snoc_ind (m := fun P => ∀ R, M = P ++ R → Good P) (fun _ _ => ⟨fun _ h => (by cases h), List.nodup_nil, .nil, fun _ h => (by cases h), fun _ h => (by cases h)⟩) (fun P x ih R eM => ?_) P
    rw [List.append_assoc] at eM
    have gP := ih _ eM
    have inL : ∀ y ∈ P ++ [x], y ∈ L := fun y hy => (hm y).mp (by
      rw [eM, ← List.append_assoc]
      exact List.mem_append_left _ hy)
    have hxL := inL x (List.mem_append_right _ List.mem_cons_self)
    have ordP : (P ++ [x]).Pairwise fun x y => cnt x.seen y = false := by
      rw [eM, ← List.append_assoc] at ord
      exact (List.pairwise_append.mp ord).1
    have past : ∀ y ∈ L, cnt x.seen y = true → y ∈ P := fun y hy q => by
      have hyM := (hm y).mpr hy
      rw [eM] at hyM
      rcases List.mem_append.mp hyM with h | h
      · exact h
      · exfalso
        rcases List.mem_cons.mp h with e | h
        · rw [e, (g.ok x hxL).self] at q
          cases q
        · rw [eM] at ord
          have z := (List.pairwise_append.mp ord).2.1
          have w := (List.pairwise_cons.mp z).1 y h
          rw [w] at q
          cases q
    have clx : ∀ y ∈ P, cnt x.seen y = true → Le4 y.seen x.seen := fun y hy q => g.closed hxL y (inL y (List.mem_append_left _ hy)) q
    have gK := gP.part clx
    have self0 : cnt x.seen x = false := (g.ok x hxL).self
    have kx : known (P ++ [x]) x.seen = known P x.seen := by
      rw [known_app]
      unfold known
      rw [List.filter_cons_of_neg (by rw [self0]; simp), List.filter_nil, List.append_nil]
    refine ⟨fun y hy => g.ok y (inL y hy), ?_, ordP, fun y hy h m hh h1 h2 => ?_, fun y hy => ?_⟩
    · rw [eM, ← List.append_assoc, List.map_append] at ndM
      exact (List.nodup_append.mp ndM).1
    · rcases List.mem_append.mp hy with hy | hy
      · obtain ⟨z, hz, q⟩ := gP.cl y hy h m hh h1 h2
        exact ⟨z, List.mem_append_left _ hz, q⟩
      · have e := List.mem_singleton.mp hy
        subst e
        obtain ⟨z, hz, e1, e2, q⟩ := g.cl y hxL h m hh h1 h2
        refine ⟨z, List.mem_append_left _ (past z hz ?_), e1, e2, q⟩
        unfold cnt
        rw [e1, e2]
        exact decide_eq_true h2
    · rcases List.mem_append.mp hy with hy | hy
      · have e : cnt y.seen x = false := (List.pairwise_append.mp ordP).2.2 y hy x List.mem_cons_self
        rw [known_app]
        unfold known
        rw [List.filter_cons_of_neg (by rw [e]; simp), List.filter_nil, List.append_nil]
        exact gP.fit y hy
      · have e := List.mem_singleton.mp hy
        subst e
        rw [kx]
        refine fits_congr (g.seen hxL) gK (fun u => ⟨fun hu => ?_, fun hu => ?_⟩) (g.fit y hxL)
        · obtain ⟨h1, h2⟩ := List.mem_filter.mp hu
          exact List.mem_filter.mpr ⟨past u h1 h2, h2⟩
        · obtain ⟨h1, h2⟩ := List.mem_filter.mp hu
          exact List.mem_filter.mpr ⟨inL u (List.mem_append_left _ h1), h2⟩
  exact main M [] (List.append_nil M).symm
theorem good_nil : Good [] := ⟨fun _ h => (by cases h), List.nodup_nil, .nil, fun _ h => (by cases h), fun _ h => (by cases h)⟩
/-! ### counting the past -/
section
variable {L : List Deed} {x y : Deed}
theorem Good.find (g : Good L) (hx : x ∈ L) {h m : Int} (hh : Hand h) (h1 : 1 ≤ m) (h2 : m ≤ ck x.seen h) : ∃ y ∈ L, y.id = [h, m] ∧ Le4 y.seen x.seen ∧ cnt x.seen y = true := by
  obtain ⟨y, hy, e1, e2, q⟩ := g.cl x hx h m hh h1 h2
  refine ⟨y, hy, by unfold Deed.id; rw [e1, e2], q, ?_⟩
  unfold cnt
  rw [e1, e2]
  exact decide_eq_true h2
/-- [c0, c1, c2, c3] -/
theorem four {c : List Int} (h : c.length = 4) : c = [ck c 1, ck c 2, ck c 3, ck c 4] := by
  match c, h with
  | [a, b, d, e], _ => rfl
theorem sum4 {c : List Int} (h : c.length = 4) : c.sum = ck c 1 + ck c 2 + ck c 3 + ck c 4 := by
  match c, h with
  | [a, b, d, e], _ =>
    show a + (b + (d + (e + 0))) = a + b + d + e
    omega
theorem ck_pos {c : List Int} (h : ∀ i ∈ c, 0 ≤ i) (k : Int) : 0 ≤ ck c k := by
  unfold ck
  cases e : c[(k - 1).toNat]? with
  | none => rw [List.getD_eq_getElem?_getD, e]; exact Int.le_refl _
  | some i =>
    rw [List.getD_eq_getElem?_getD, e]
    exact h i (List.mem_of_getElem? e)
/-- the pairs below a clock -/
def pairsOf (c : List Int) : List (List Int) := [1, 2, 3, 4].flatMap fun (h : Int) => (List.range (ck c h).toNat).map fun (k : Nat) => [h, (k : Int) + 1]
theorem pairs_len {c : List Int} (h : c.length = 4) (hp : ∀ i ∈ c, 0 ≤ i) : ((pairsOf c).length : Int) = c.sum := by
  rw [sum4 h]
  unfold pairsOf
  have a := ck_pos hp 1
  have b := ck_pos hp 2
  have d := ck_pos hp 3
  have e := ck_pos hp 4
  simp only [List.flatMap_cons, List.flatMap_nil, List.length_append, List.length_map, List.length_range, List.append_nil]
  omega
theorem mem_pairs {c p : List Int} (hp : p ∈ pairsOf c) : ∃ h m, Hand h ∧ 1 ≤ m ∧ m ≤ ck c h ∧ p = [h, m] := by
  unfold pairsOf at hp
  obtain ⟨h, hh, hq⟩ := List.mem_flatMap.mp hp
  obtain ⟨k, hk, rfl⟩ := List.mem_map.mp hq
  have hk := List.mem_range.mp hk
  refine ⟨h, (k : Int) + 1, ?_, by omega, by omega, rfl⟩
  unfold Hand
  simp at hh
  omega
theorem pairs_nd (c : List Int) : (pairsOf c).Nodup := by
  have r : ∀ h : Int, ((List.range (ck c h).toNat).map fun (k : Nat) => [h, (k : Int) + 1]).Nodup := fun h => by
    unfold List.Nodup
    rw [List.pairwise_map]
    refine List.nodup_range.imp fun {a b} n e => n ?_
    simp only [List.cons.injEq, and_true, true_and] at e
    omega
  have d : ∀ (h h' : Int), h ≠ h' → ∀ p, p ∈ ((List.range (ck c h).toNat).map fun (k : Nat) => [h, (k : Int) + 1]) → ∀ q, q ∈ ((List.range (ck c h').toNat).map fun (k : Nat) => [h', (k : Int) + 1]) → p ≠ q := fun h h' n p hp q hq e => by
    obtain ⟨_, _, rfl⟩ := List.mem_map.mp hp
    obtain ⟨_, _, rfl⟩ := List.mem_map.mp hq
    simp only [List.cons.injEq, and_true] at e
    exact n e.1
  unfold pairsOf
  simp only [List.flatMap_cons, List.flatMap_nil, List.append_nil]
  refine List.nodup_append.mpr ⟨r 1, List.nodup_append.mpr ⟨r 2, List.nodup_append.mpr ⟨r 3, r 4, d 3 4 (by decide)⟩, fun p hp q hq => ?_⟩, fun p hp q hq => ?_⟩
  · rcases List.mem_append.mp hq with hq | hq
    · exact d 2 3 (by decide) p hp q hq
    · exact d 2 4 (by decide) p hp q hq
  · rcases List.mem_append.mp hq with hq | hq
    · exact d 1 2 (by decide) p hp q hq
    · rcases List.mem_append.mp hq with hq | hq
      · exact d 1 3 (by decide) p hp q hq
      · exact d 1 4 (by decide) p hp q hq
theorem Good.sum_lt (g : Good L) (hx : x ∈ L) : x.seen.sum < L.length := by
  have o := g.ok x hx
  have h1 : (pairsOf x.seen).length ≤ ((known L x.seen).map Deed.id).length := List.Nodup.length_le_of_subset (pairs_nd _) fun p hp => by
    obtain ⟨h, m, hh, a, b, rfl⟩ := mem_pairs hp
    obtain ⟨y, hy, e, _, q⟩ := g.find hx hh a b
    exact List.mem_map.mpr ⟨y, List.mem_filter.mpr ⟨hy, q⟩, e⟩
  have h2 : (known L x.seen).length < L.length := by
    unfold known
    exact List.length_filter_lt_length_iff_exists.mpr ⟨x, hx, by rw [o.self]; simp⟩
  rw [List.length_map] at h1
  have h3 := pairs_len o.len o.pos
  omega
/-- deeds of one hand -/
def byHand (L : List Deed) (h : Int) : List Deed := L.filter fun x => decide (x.h = h)
theorem Good.count (g : Good L) (hx : x ∈ L) {h : Int} (hh : Hand h) : ck x.seen h ≤ (byHand L h).length := by
  have e : ((List.range (ck x.seen h).toNat).map fun (k : Nat) => [h, (k : Int) + 1]).length ≤ ((byHand L h).map Deed.id).length := List.Nodup.length_le_of_subset (by
    unfold List.Nodup
    rw [List.pairwise_map]
    refine List.nodup_range.imp fun {a b} n e => n ?_
    simp only [List.cons.injEq, and_true, true_and] at e
    omega) fun p hp => by
      obtain ⟨k, hk, rfl⟩ := List.mem_map.mp hp
      have hk := List.mem_range.mp hk
      obtain ⟨y, hy, e, _, q⟩ := g.find hx (m := (k : Int) + 1) hh (by omega) (by omega)
      refine List.mem_map.mpr ⟨y, List.mem_filter.mpr ⟨hy, decide_eq_true ?_⟩, e⟩
      unfold Deed.id at e
      simp only [List.cons.injEq] at e
      exact e.1
  rw [List.length_map, List.length_map, List.length_range] at e
  omega
/-- a deed's past is smaller -/
theorem Good.sum_past (g : Good L) (hx : x ∈ L) (hy : y ∈ L) (q : cnt x.seen y = true) : y.seen.sum < x.seen.sum := by
  have ox := g.ok x hx
  have oy := g.ok y hy
  have le := g.closed hx y hy q
  rw [sum4 ox.len, sum4 oy.len]
  have h1 := le 1 ⟨by decide, by decide⟩
  have h2 := le 2 ⟨by decide, by decide⟩
  have h3 := le 3 ⟨by decide, by decide⟩
  have h4 := le 4 ⟨by decide, by decide⟩
  have own := oy.own
  have n := of_decide_eq_true (show decide (y.n ≤ ck x.seen y.h) = true from q)
  obtain ⟨a, b⟩ := oy.hand
  have hc : y.h = 1 ∨ y.h = 2 ∨ y.h = 3 ∨ y.h = 4 := by omega
  rcases hc with e | e | e | e <;> rw [e] at own n <;> omega
/-! ### times -/
/-- later than what it has seen last of each hand -/
def TimeOk (L : List Deed) (tm : List Int → Int) : Prop := ∀ x ∈ L, ∀ h, Hand h → 0 < ck x.seen h → tm [h, ck x.seen h] < tm x.id
theorem Good.time_lt (g : Good L) {tm : List Int → Int} (T : TimeOk L tm) : ∀ (d : Nat) (x y : Deed), x ∈ L → y ∈ L → cnt x.seen y = true → (ck x.seen y.h - y.n).toNat = d → tm y.id < tm x.id := by
  intro d
  induction d with
  | zero =>
    intro x y hx hy q e
    have n := of_decide_eq_true (show decide (y.n ≤ ck x.seen y.h) = true from q)
    have oy := g.ok y hy
    have eq : ck x.seen y.h = y.n := by omega
    have z := T x hx y.h oy.hand (by have := oy.n1; omega)
    rw [eq] at z
    exact z
  | succ d ih =>
    intro x y hx hy q e
    have n := of_decide_eq_true (show decide (y.n ≤ ck x.seen y.h) = true from q)
    have oy := g.ok y hy
    have n1 := oy.n1
    obtain ⟨z, hz, ez, _, qz⟩ := g.find hx (m := ck x.seen y.h) oy.hand (by omega) (Int.le_refl _)
    have t1 := T x hx y.h oy.hand (by omega)
    rw [← ez] at t1
    have oz := g.ok z hz
    have ez1 : z.h = y.h ∧ z.n = ck x.seen y.h := by
      unfold Deed.id at ez
      simp only [List.cons.injEq, and_true] at ez
      exact ez
    have own := oz.own
    have t2 := ih z y hz hy (by
      unfold cnt
      rw [← ez1.1, own]
      exact decide_eq_true (by omega)) (by rw [← ez1.1, own]; omega)
    omega
theorem Good.turned (g : Good L) {tm : List Int → Int} (T : TimeOk L tm) {M : List Deed} (p : M.Perm L) (s : M.Pairwise fun a b => tm a.id ≤ tm b.id) : Good M := by
  refine g.perm p (List.Pairwise.imp_of_mem (fun {a b} ha hb h => ?_) s)
  cases q : cnt a.seen b with
  | false => rfl
  | true =>
    have := g.time_lt T _ a b (p.mem_iff.mp ha) (p.mem_iff.mp hb) q rfl
    omega
end
end K20
namespace K20
/-! ### how the law writes -/
structure CutOk (L : List Deed) (c : List Int) : Prop where
  len : c.length = 4
  pos : ∀ i ∈ c, 0 ≤ i
  cl : ∀ h m, Hand h → 1 ≤ m → m ≤ ck c h → ∃ y ∈ L, y.h = h ∧ y.n = m ∧ Le4 y.seen c
structure WInv (cs : List (List Int)) (L : List Deed) : Prop where
  good : Good L
  len : cs.length = 4
  cut : ∀ c ∈ cs, CutOk L c
  own : ∀ (i : Nat) c, cs[i]? = some c → ∀ y ∈ L, y.h = (i : Int) + 1 → y.n ≤ ck c ((i : Int) + 1)
def bothC (c d : List Int) : List Int := (List.range 4).map fun k => if d.getD k 0 > c.getD k 0 then d.getD k 0 else c.getD k 0
def bump (c : List Int) (h : Nat) : List Int := (List.range 4).map fun j => c.getD j 0 + (if j = h then 1 else 0)
theorem hand4 {h : Int} (hh : Hand h) : (h - 1).toNat < 4 := by
  obtain ⟨a, b⟩ := hh
  omega
theorem ck_map (f : Nat → Int) {h : Int} (hh : Hand h) : ck ((List.range 4).map f) h = f (h - 1).toNat := by
  unfold ck
  rw [List.getD_eq_getElem?_getD, List.getElem?_map, List.getElem?_range (hand4 hh)]
  rfl
theorem ck_both (c d : List Int) {h : Int} (hh : Hand h) : ck (bothC c d) h = if ck d h > ck c h then ck d h else ck c h := ck_map _ hh
theorem ck_bump (c : List Int) (k : Nat) {h : Int} (hh : Hand h) : ck (bump c k) h = ck c h + (if (h - 1).toNat = k then 1 else 0) := ck_map _ hh
theorem both_le (c d : List Int) : Le4 c (bothC c d) ∧ Le4 d (bothC c d) := ⟨fun h hh => by rw [ck_both c d hh]; split <;> omega, fun h hh => by rw [ck_both c d hh]; split <;> omega⟩
theorem Le4.trans {a b c : List Int} (x : Le4 a b) (y : Le4 b c) : Le4 a c := fun h hh => Int.le_trans (x h hh) (y h hh)
theorem getD_nn {c : List Int} (h : ∀ i ∈ c, 0 ≤ i) (k : Nat) : 0 ≤ c.getD k 0 := by
  rw [List.getD_eq_getElem?_getD]
  cases e : c[k]? with
  | none => exact Int.le_refl _
  | some i => exact h i (List.mem_of_getElem? e)
section
variable {L : List Deed} {cs : List (List Int)}
theorem CutOk.both {c d : List Int} (x : CutOk L c) (y : CutOk L d) : CutOk L (bothC c d) where
  len := by unfold bothC; rw [List.length_map, List.length_range]
  pos := fun i hi => by
    obtain ⟨k, _, rfl⟩ := List.mem_map.mp hi
    have a := getD_nn x.pos k
    have b := getD_nn y.pos k
    split <;> assumption
  cl := fun h m hh h1 h2 => by
    rw [ck_both c d hh] at h2
    by_cases q : ck d h > ck c h
    · rw [if_pos q] at h2
      obtain ⟨z, hz, e1, e2, e3⟩ := y.cl h m hh h1 h2
      exact ⟨z, hz, e1, e2, e3.trans (both_le c d).2⟩
    · rw [if_neg q] at h2
      obtain ⟨z, hz, e1, e2, e3⟩ := x.cl h m hh h1 h2
      exact ⟨z, hz, e1, e2, e3.trans (both_le c d).1⟩
theorem CutOk.closed (g : Good L) {c : List Int} (x : CutOk L c) : ∀ y ∈ L, cnt c y = true → Le4 y.seen c := fun y hy q => by
  have o := g.ok y hy
  obtain ⟨z, hz, e1, e2, w⟩ := x.cl y.h y.n o.hand o.n1 (of_decide_eq_true q)
  have e := nd_inj g.nd hz hy (id_eq.mpr ⟨e1, e2⟩)
  rw [← e]
  exact w
theorem CutOk.good (g : Good L) {c : List Int} (x : CutOk L c) : Good (known L c) := g.part (x.closed g)
theorem Good.cut (g : Good L) {x : Deed} (hx : x ∈ L) : CutOk L x.seen := ⟨(g.ok x hx).len, (g.ok x hx).pos, fun h m hh h1 h2 => g.cl x hx h m hh h1 h2⟩
/-- a hand learns of another -/
theorem WInv.learn (W : WInv cs L) {h : Nat} {c d : List Int} (hc : cs[h]? = some c) (hd : d ∈ cs) : WInv (cs.set h (bothC c d)) L where
  good := W.good
  len := by rw [List.length_set]; exact W.len
  cut := fun e he => by
    rcases List.mem_or_eq_of_mem_set he with he | he
    · exact W.cut e he
    · rw [he]
      exact (W.cut c (List.mem_of_getElem? hc)).both (W.cut d hd)
  own := fun i e he y hy ey => by
    rw [List.getElem?_set] at he
    by_cases q : h = i
    · rw [if_pos q] at he
      split at he
      · cases he
        subst q
        have z := W.own h c hc y hy ey
        have hh : Hand ((h : Int) + 1) := by rw [← ey]; exact (W.good.ok y hy).hand
        have := (both_le c d).1 _ hh
        omega
      · cases he
    · rw [if_neg q] at he
      exact W.own i e he y hy ey
/-- a hand writes -/
theorem WInv.write (W : WInv cs L) {h : Nat} (h4 : h < 4) {c : List Int} (hc : cs[h]? = some c) {a : Act} (hf : FitsX (known L c) a) : WInv (cs.set h (bump c h)) (L ++ [⟨(h : Int) + 1, ck c ((h : Int) + 1) + 1, c, a⟩]) := by
  have C := W.cut c (List.mem_of_getElem? hc)
  have hh : Hand ((h : Int) + 1) := ⟨by omega, by omega⟩
  have g := W.good
  have nat : (((h : Int) + 1) - 1).toNat = h := by omega
  have cpos := ck_pos C.pos ((h : Int) + 1)
  generalize hx : (⟨(h : Int) + 1, ck c ((h : Int) + 1) + 1, c, a⟩ : Deed) = x
  have xh : x.h = (h : Int) + 1 := by rw [← hx]
  have xn : x.n = ck c ((h : Int) + 1) + 1 := by rw [← hx]
  have xs : x.seen = c := by rw [← hx]
  have xa : x.act = a := by rw [← hx]
  have ox : DeedOk x := ⟨by rw [xh]; exact hh, by rw [xn]; omega, by rw [xs]; exact C.len, by rw [xs]; exact C.pos, by rw [xs, xh, xn]; omega⟩
  have fresh : ∀ y ∈ L, y.h = (h : Int) + 1 → y.n ≤ ck c ((h : Int) + 1) := fun y hy e => W.own h c hc y hy e
  have noS : ∀ y ∈ L, cnt y.seen x = false := fun y hy => by
    cases q : cnt y.seen x with
    | false => rfl
    | true =>
      exfalso
      have q := of_decide_eq_true (show decide (x.n ≤ ck y.seen x.h) = true from q)
      obtain ⟨z, hz, e1, e2, _⟩ := g.cl y hy x.h x.n ox.hand ox.n1 q
      have := fresh z hz (e1.trans xh)
      rw [e2, xn] at this
      omega
  have sx : cnt x.seen x = false := ox.self
  have kn : ∀ c', cnt c' x = false → known (L ++ [x]) c' = known L c' := fun c' e => by
    rw [known_app]
    unfold known
    rw [List.filter_cons_of_neg (by rw [e]; simp), List.filter_nil, List.append_nil]
  have G : Good (L ++ [x]) := by
    refine ⟨fun y hy => ?_, ?_, ?_, fun y hy k m hk h1 h2 => ?_, fun y hy => ?_⟩
    · rcases List.mem_append.mp hy with hy | hy
      · exact g.ok y hy
      · rw [List.mem_singleton.mp hy]; exact ox
    · rw [List.map_append]
      refine List.nodup_append.mpr ⟨g.nd, by simp, fun p hp q hq e => ?_⟩
      obtain ⟨y, hy, rfl⟩ := List.mem_map.mp hp
      rw [List.map_cons, List.map_nil] at hq
      rw [List.mem_singleton.mp hq] at e
      obtain ⟨e1, e2⟩ := id_eq.mp e
      have := fresh y hy (e1.trans xh)
      rw [e2, xn] at this
      omega
    · refine List.pairwise_append.mpr ⟨g.ord, List.pairwise_singleton _ _, fun y hy z hz => ?_⟩
      rw [List.mem_singleton.mp hz]
      exact noS y hy
    · rcases List.mem_append.mp hy with hy | hy
      · obtain ⟨z, hz, q⟩ := g.cl y hy k m hk h1 h2
        exact ⟨z, List.mem_append_left _ hz, q⟩
      · rw [List.mem_singleton.mp hy, xs] at h2 ⊢
        obtain ⟨z, hz, q⟩ := C.cl k m hk h1 h2
        exact ⟨z, List.mem_append_left _ hz, q⟩
    · rcases List.mem_append.mp hy with hy | hy
      · rw [kn _ (noS y hy)]
        exact g.fit y hy
      · rw [List.mem_singleton.mp hy, kn _ sx, xs, xa]
        exact hf
  have up : Le4 c (bump c h) := fun k hk => by rw [ck_bump c h hk]; split <;> omega
  refine ⟨G, by rw [List.length_set]; exact W.len, fun e he => ?_, fun i e he y hy ey => ?_⟩
  · rcases List.mem_or_eq_of_mem_set he with he | he
    · have z := W.cut e he
      exact ⟨z.len, z.pos, fun k m hk h1 h2 => by
        obtain ⟨y, hy, q⟩ := z.cl k m hk h1 h2
        exact ⟨y, List.mem_append_left _ hy, q⟩⟩
    · rw [he]
      refine ⟨by unfold bump; rw [List.length_map, List.length_range], fun j hj => ?_, fun k m hk h1 h2 => ?_⟩
      · obtain ⟨u, _, rfl⟩ := List.mem_map.mp hj
        have := getD_nn C.pos u
        split <;> omega
      · rw [ck_bump c h hk] at h2
        by_cases q : m ≤ ck c k
        · obtain ⟨y, hy, e1, e2, e3⟩ := C.cl k m hk h1 q
          exact ⟨y, List.mem_append_left _ hy, e1, e2, e3.trans up⟩
        · have e : (k - 1).toNat = h := by
            split at h2
            · assumption
            · omega
          have ek : k = (h : Int) + 1 := by
            obtain ⟨a1, a2⟩ := hk
            omega
          rw [if_pos e] at h2
          refine ⟨x, List.mem_append_right _ List.mem_cons_self, by rw [xh, ek], ?_, by rw [xs]; exact up⟩
          rw [xn, ← ek]
          omega
  · rw [List.getElem?_set] at he
    by_cases q : h = i
    · rw [if_pos q] at he
      split at he
      · cases he
        subst q
        rw [ck_bump c h hh, if_pos nat]
        rcases List.mem_append.mp hy with hy | hy
        · have := fresh y hy ey
          omega
        · rw [List.mem_singleton.mp hy, xn]
          exact Int.le_refl _
      · cases he
    · rw [if_neg q] at he
      rcases List.mem_append.mp hy with hy | hy
      · exact W.own i e he y hy ey
      · rw [List.mem_singleton.mp hy, xh] at ey
        omega
theorem winv0 : WInv [[0, 0, 0, 0], [0, 0, 0, 0], [0, 0, 0, 0], [0, 0, 0, 0]] [] := by
  have c0 : ∀ h, Hand h → ck [0, 0, 0, 0] h = 0 := fun h hh => by
    obtain ⟨a, b⟩ := hh
    have : h = 1 ∨ h = 2 ∨ h = 3 ∨ h = 4 := by omega
    rcases this with rfl | rfl | rfl | rfl <;> rfl
  refine ⟨good_nil, rfl, fun c hc => ?_, fun i c e y hy => (by cases hy)⟩
  have e : c = [0, 0, 0, 0] := by simpa using hc
  subst e
  exact ⟨rfl, fun i hi => by simp at hi; omega, fun h m hh h1 h2 => by rw [c0 h hh] at h2; omega⟩
/-! ### what is not there -/
theorem no_block_next {P : List Deed} {x : Deed} (g : Good (P ++ [x])) : ¬ IsBlock (P ++ [x]) [x.h, x.n + 1] := by
  have hx := g.ok x (List.mem_append_right _ List.mem_cons_self)
  rintro (e | ⟨y, hy, e, _⟩)
  · unfold root at e
    simp only [List.cons.injEq, and_true] at e
    have := hx.hand.1
    omega
  · unfold Deed.id at e
    simp only [List.cons.injEq, and_true] at e
    obtain ⟨e1, e2⟩ := e
    rcases List.mem_append.mp hy with hm | hm
    · have z := (List.pairwise_append.mp g.ord).2.2 y hm x List.mem_cons_self
      have z := of_decide_eq_false (show decide (x.n ≤ ck y.seen x.h) = false from z)
      have o := (g.ok y hy).own
      rw [e1, e2] at o
      omega
    · rw [List.mem_singleton.mp hm] at e2
      omega
theorem no_block_write (g : Good L) {x : Deed} (hx : x ∈ L) {b : List Int} {l r : Option (List Int)} {m : Nat} (ha : x.act = .wr b l r m) : ¬ IsBlock L x.id := by
  rintro (e | ⟨y, hy, e, c, hc⟩)
  · unfold root Deed.id at e
    simp only [List.cons.injEq, and_true] at e
    have := (g.ok x hx).hand.1
    omega
  · have z := nd_inj g.nd hy hx e
    rw [z, ha] at hc
    cases hc
theorem no_sign (g : Good L) {x : Deed} : sg x 3 ∉ keysC (ctree L) := fun h => by
  obtain ⟨b, hb⟩ := mem_ctree.mp h
  obtain ⟨y, hy, l, r, m, k, ha, hk, e⟩ := mem_tree.mp hb
  have f := g.fit y hy
  rw [ha] at f
  have := (sg_inj e).2
  have := f.2.2.2
  omega
end
end K20
namespace K20
theorem tree_le {L : List Deed} (g : Good L) (b : List Int) : (tree L b).length ≤ (ctree L).length := by
  have z := List.Nodup.length_le_of_subset (l₂ := keysC (ctree L)) (g.tb b).nd fun s hs => mem_ctree.mpr ⟨b, hs⟩
  unfold keys keysC at z
  rw [List.length_map, List.length_map] at z
  exact z
/-- no climb is higher than there are signs -/
theorem Good.depB {L : List Deed} (g : Good L) {s : List Int} (h : s ∈ keysC (ctree L)) : ∃ n, n ≤ (ctree L).length ∧ Dep (lu (ctree L)) s n := by
  obtain ⟨b, hb⟩ := mem_ctree.mp h
  have bl := block_len (tree_block g hb)
  have main : ∀ t0 : Tr, TB t0 → (∀ e ∈ t0, e ∈ tree L b) → ∀ s ∈ keys t0, ∃ n, n ≤ t0.length ∧ Dep (lu (ctree L)) s n := fun t0 B0 => by
    induction B0 with
    | nil => exact fun _ s h => by cases h
    | @snoc t0 s0 pl h1 h2 h3 h4 ih =>
      intro sub c hc
      have ih := ih fun e he => sub e (List.mem_append_left _ he)
      unfold keys at hc
      rw [List.map_append] at hc
      rw [List.length_append]
      rcases List.mem_append.mp hc with hc | hc
      · obtain ⟨n, q, d⟩ := ih c hc
        exact ⟨n, by omega, d⟩
      · have e : c = s0 := List.mem_singleton.mp hc
        rw [e]
        have hm := sub (s0, pl) (List.mem_append_right _ List.mem_cons_self)
        have z := g.lift b s0 pl (mem_lu (g.tb b).nd hm)
        obtain ⟨p, sd⟩ := pl
        cases p with
        | none => exact ⟨1, by show 1 ≤ _ + 1; omega, .up z (.top (luC_none bl))⟩
        | some p =>
          obtain ⟨n, q, hn⟩ := ih p (h3 p rfl)
          exact ⟨n + 1, by show n + 1 ≤ _ + 1; omega, .up z hn⟩
  obtain ⟨n, q, d⟩ := main _ (g.tb b) (fun _ h => h) s hb
  exact ⟨n, Nat.le_trans q (tree_le g b), d⟩
theorem hangC_succ (x : Deed) (p : PlC) (m : Nat) : hangC x p (m + 1) = hangC x p m ++ [(sg x m, if m = 0 then p else (sg x (m - 1), false))] := by
  unfold hangC
  rw [List.range_succ, List.map_append]
  rfl
theorem range_sg (x : Deed) (m : Nat) : (List.range (m + 1)).map (sg x) = (List.range m).map (sg x) ++ [sg x m] := by
  rw [List.range_succ, List.map_append]
  rfl
theorem lu_below {L : List Deed} (g : Good L) {s : List Int} {pc : PlC} (h : lu (ctree L) s = some pc) : IsBlock L pc.1 ∨ pc.1 ∈ keysC (ctree L) := by
  obtain ⟨b, pl, hb, e, e2⟩ := g.drop h
  rw [e2]
  unfold liftP
  cases hp : pl.1 with
  | none => exact .inl hb
  | some p =>
    refine .inr (mem_ctree.mpr ⟨b, ?_⟩)
    have e3 : pl = (some p, pl.2) := by rw [← hp]
    rw [e3] at e
    exact (g.tb b).par _ _ _ (lu_mem e)
end K20
namespace K20
open PySem PySem.Spec PyProof.Rows
/-- how far below the top -/
inductive DepP (f : List Int → Option Pl) : List Int → Nat → Prop
  | top {s : List Int} {sd : Bool} : f s = some (none, sd) → DepP f s 1
  | up {s p : List Int} {sd : Bool} {n : Nat} : f s = some (some p, sd) → DepP f p n → DepP f s (n + 1)
theorem TB.depP {t : Tr} (B : TB t) : ∀ s ∈ keys t, ∃ n, n ≤ t.length ∧ DepP (lu t) s n := by
  induction B with
  | nil => exact fun s h => by cases h
  | @snoc t s pl B h2 h3 h4 ih =>
    have old : ∀ n c, c ∈ keys t → DepP (lu t) c n → DepP (lu (t ++ [(s, pl)])) c n := fun n c hc h => by
      induction h with
      | top e => exact .top (by rw [lu_snoc_old hc]; exact e)
      | up e _ ih2 => exact .up (by rw [lu_snoc_old hc]; exact e) (ih2 (B.cls _ _ _ hc e))
    intro c hc
    rw [List.length_append]
    unfold keys at hc
    rw [List.map_append] at hc
    rcases List.mem_append.mp hc with hc | hc
    · obtain ⟨n, hn, d⟩ := ih c hc
      exact ⟨n, by omega, old n c hc d⟩
    · obtain rfl : c = s := List.mem_singleton.mp hc
      obtain ⟨p, sd⟩ := pl
      cases p with
      | none => exact ⟨1, Nat.le_add_left _ _, .top (lu_snoc_new h2)⟩
      | some p =>
        have hp := h3 p rfl
        obtain ⟨n, hn, d⟩ := ih p hp
        exact ⟨n + 1, Nat.succ_le_succ hn, .up (lu_snoc_new h2) (old n p hp d)⟩
theorem DepP.pos {f : List Int → Option Pl} {s : List Int} {n : Nat} (h : DepP f s n) : 1 ≤ n := by
  cases h with
  | top _ => exact Nat.le_refl _
  | up _ _ => exact Nat.le_add_left _ _
/-- the search upwards: where it stands -/
structure AbI (f : List Int → Option Pl) (a s : List Int) (len i : Nat) (o : Option (List Int)) : Prop where
  ans : AncP f a s ↔ o = some a ∨ ∃ p, o = some p ∧ AncP f a p
  dep : ∀ p, o = some p → ∃ m, DepP f p m ∧ m + i + 1 ≤ len
theorem ancP_step {f : List Int → Option Pl} {a p : List Int} {q : Option (List Int)} {sd : Bool} (e : f p = some (q, sd)) : AncP f a p ↔ q = some a ∨ ∃ r, q = some r ∧ AncP f a r := by
  constructor
  · intro h
    cases h with
    | one e2 =>
      rw [e] at e2
      cases e2
      exact .inl rfl
    | more e2 h2 =>
      rw [e] at e2
      cases e2
      exact .inr ⟨_, rfl, h2⟩
  · rintro (h | ⟨r, h, h2⟩)
    · rw [h] at e
      exact .one e
    · rw [h] at e
      exact .more e h2
theorem AbI.start {f : List Int → Option Pl} {a s : List Int} {len n : Nat} {q : Option (List Int)} {sd : Bool} (e : f s = some (q, sd)) (d : DepP f s n) (hn : n ≤ len) : AbI f a s len 0 q where
  ans := ancP_step e
  dep := fun p hp => by
    cases d with
    | top e2 => rw [e] at e2; rw [hp] at e2; cases e2
    | @up _ p' sd' m e2 d2 =>
      rw [e] at e2
      rw [hp] at e2
      cases e2
      exact ⟨m, d2, by omega⟩
theorem AbI.next {f : List Int → Option Pl} {a s p : List Int} {len i : Nat} (x : AbI f a s len i (some p)) (n : p ≠ a) : ∃ q sd, f p = some (q, sd) ∧ AbI f a s len (i + 1) q := by
  obtain ⟨m, d, hm⟩ := x.dep p rfl
  have go : ∀ q sd, f p = some (q, sd) → (∀ r, q = some r → ∃ m', DepP f r m' ∧ m' + (i + 1) + 1 ≤ len) → ∃ q sd, f p = some (q, sd) ∧ AbI f a s len (i + 1) q := fun q sd e h => by
    refine ⟨q, sd, e, ⟨?_, h⟩⟩
    rw [← ancP_step e]
    constructor
    · intro h
      rcases x.ans.mp h with z | ⟨r, z, h2⟩
      · exact absurd (Option.some.inj z) n
      · cases z
        exact h2
    · exact fun h => x.ans.mpr (.inr ⟨p, rfl, h⟩)
  cases d with
  | top e => exact go _ _ e (fun r z => by cases z)
  | @up _ p' sd' m' e d2 => exact go _ _ e (fun r z => by cases z; exact ⟨m', d2, by omega⟩)
theorem AbI.done {f : List Int → Option Pl} {a s : List Int} {len : Nat} {o : Option (List Int)} (x : AbI f a s len (len + 1) o) : o = none := by
  cases o with
  | none => rfl
  | some p =>
    obtain ⟨m, _, hm⟩ := x.dep p rfl
    omega
theorem AbI.told {f : List Int → Option Pl} {a s : List Int} {len i : Nat} {o : Option (List Int)} (x : AbI f a s len i o) (h : o = none ∨ o = some a) {b : Bool} (hb : b = true ↔ AncP f a s) : decide (o = some a) = b := by
  rcases h with h | h
  · subst h
    have : ¬ AncP f a s := fun z => by
      rcases x.ans.mp z with z | ⟨_, z, _⟩ <;> cases z
    cases b with
    | false => rfl
    | true => exact absurd (hb.mp rfl) this
  · rw [decide_eq_true h]
    exact (hb.mpr (x.ans.mpr (.inl h))).symm
/-! ### the law's tree, as a table -/
def utab (t : Tr) : List (D × Pl) := t.map fun e => (tI e.1, e.2)
theorem lu_utab (t : Tr) (s : List Int) : lu (utab t) (tI s) = lu t s := by
  unfold utab
  induction t with
  | nil => rfl
  | cons e t ih =>
    obtain ⟨k, p⟩ := e
    show (if tI k = tI s then some p else lu (t.map fun e => (tI e.1, e.2)) (tI s)) = if k = s then some p else lu t s
    by_cases h : k = s
    · rw [if_pos h, if_pos (by rw [h])]
    · rw [if_neg h, if_neg (fun z => h (tI_inj z)), ih]
theorem utab_keys (t : Tr) : (utab t).map (·.1) = (keys t).map tI := by
  unfold utab keys
  rw [List.map_map, List.map_map]
  rfl
theorem utab_app (t u : Tr) : utab (t ++ u) = utab t ++ utab u := List.map_append
theorem hang_succ (x : Deed) (p : Pl) (m : Nat) : hang x p (m + 1) = hang x p m ++ [(sg x m, if m = 0 then p else (some (sg x (m - 1)), false))] := by
  unfold hang
  rw [List.range_succ, List.map_append]
  rfl
end K20
namespace K20
open PySem PySem.Spec PyProof.Rows L2
/-! ### the text -/
abbrev FnP (K : Fg) (x qual : Str) (st : Stmt) (f : Addr) (fd : FuncData) : Prop := FunD K x qual (defArgs st) (defBody st) (defScope st) [] [] f fd
/-- what the top leaves -/
structure Tp (K : Fg) (mg : Str → Option Value) (w : World) (T : List (Addr × Str)) (base : Heap) where
  all : mg "all" = none
  any : mg "any" = none
  bool : mg "bool" = none
  int : mg "int" = none
  isinstance : mg "isinstance" = none
  len : mg "len" = none
  list : mg "list" = none
  max : mg "max" = none
  min : mg "min" = none
  range : mg "range" = none
  sorted : mg "sorted" = none
  str : mg "str" = none
  sum : mg "sum" = none
  tuple : mg "tuple" = none
  zip : mg "zip" = none
  f_is_integer : Addr
  d_is_integer : FuncData
  F_is_integer : FnP K "is_integer" "is_integer" s_is_integer f_is_integer d_is_integer
  g_is_integer : mg "is_integer" = some (.ref f_is_integer)
  f_is_number : Addr
  d_is_number : FuncData
  F_is_number : FnP K "is_number" "is_number" s_is_number f_is_number d_is_number
  g_is_number : mg "is_number" = some (.ref f_is_number)
  f_is_clock : Addr
  d_is_clock : FuncData
  F_is_clock : FnP K "is_clock" "is_clock" s_is_clock f_is_clock d_is_clock
  g_is_clock : mg "is_clock" = some (.ref f_is_clock)
  f_is_within : Addr
  d_is_within : FuncData
  F_is_within : FnP K "is_within" "is_within" s_is_within f_is_within d_is_within
  g_is_within : mg "is_within" = some (.ref f_is_within)
  f_counts_id : Addr
  d_counts_id : FuncData
  F_counts_id : FnP K "counts_id" "counts_id" s_counts_id f_counts_id d_counts_id
  g_counts_id : mg "counts_id" = some (.ref f_counts_id)
  f_act_of : Addr
  d_act_of : FuncData
  F_act_of : FnP K "act_of" "act_of" s_act_of f_act_of d_act_of
  g_act_of : mg "act_of" = some (.ref f_act_of)
  f_named_by : Addr
  d_named_by : FuncData
  F_named_by : FnP K "named_by" "named_by" s_named_by f_named_by d_named_by
  g_named_by : mg "named_by" = some (.ref f_named_by)
  f_is_block : Addr
  d_is_block : FuncData
  F_is_block : FnP K "is_block" "is_block" s_is_block f_is_block d_is_block
  g_is_block : mg "is_block" = some (.ref f_is_block)
  f_blocks_in : Addr
  d_blocks_in : FuncData
  F_blocks_in : FnP K "blocks_in" "blocks_in" s_blocks_in f_blocks_in d_blocks_in
  g_blocks_in : mg "blocks_in" = some (.ref f_blocks_in)
  f_SignTrees___init__ : Addr
  d_SignTrees___init__ : FuncData
  F_SignTrees___init__ : FnP K "__init__" "SignTrees.__init__" s_SignTrees___init__ f_SignTrees___init__ d_SignTrees___init__
  f_SignTrees_hang_text : Addr
  d_SignTrees_hang_text : FuncData
  F_SignTrees_hang_text : FnP K "hang_text" "SignTrees.hang_text" s_SignTrees_hang_text f_SignTrees_hang_text d_SignTrees_hang_text
  f_SignTrees_hang : Addr
  d_SignTrees_hang : FuncData
  F_SignTrees_hang : FnP K "hang" "SignTrees.hang" s_SignTrees_hang f_SignTrees_hang d_SignTrees_hang
  f_SignTrees_place_between : Addr
  d_SignTrees_place_between : FuncData
  F_SignTrees_place_between : FnP K "place_between" "SignTrees.place_between" s_SignTrees_place_between f_SignTrees_place_between d_SignTrees_place_between
  f_SignTrees_is_above : Addr
  d_SignTrees_is_above : FuncData
  F_SignTrees_is_above : FnP K "is_above" "SignTrees.is_above" s_SignTrees_is_above f_SignTrees_is_above d_SignTrees_is_above
  f_SignTrees_row_under : Addr
  d_SignTrees_row_under : FuncData
  F_SignTrees_row_under : FnP K "row_under" "SignTrees.row_under" s_SignTrees_row_under f_SignTrees_row_under d_SignTrees_row_under
  f_trees_of : Addr
  d_trees_of : FuncData
  F_trees_of : FnP K "trees_of" "trees_of" s_trees_of f_trees_of d_trees_of
  g_trees_of : mg "trees_of" = some (.ref f_trees_of)
  f_row : Addr
  d_row : FuncData
  F_row : FnP K "row" "row" s_row f_row d_row
  g_row : mg "row" = some (.ref f_row)
  f_passed : Addr
  d_passed : FuncData
  F_passed : FnP K "passed" "passed" s_passed f_passed d_passed
  g_passed : mg "passed" = some (.ref f_passed)
  f_open_row : Addr
  d_open_row : FuncData
  F_open_row : FnP K "open_row" "open_row" s_open_row f_open_row d_open_row
  g_open_row : mg "open_row_core_signs" = some (.ref f_open_row)
  f_is_hand : Addr
  d_is_hand : FuncData
  F_is_hand : FnP K "is_hand" "is_hand" s_is_hand f_is_hand d_is_hand
  g_is_hand : mg "is_hand" = some (.ref f_is_hand)
  f_is_string_of : Addr
  d_is_string_of : FuncData
  F_is_string_of : FnP K "is_string_of" "is_string_of" s_is_string_of f_is_string_of d_is_string_of
  g_is_string_of : mg "is_string_of" = some (.ref f_is_string_of)
  f_is_word : Addr
  d_is_word : FuncData
  F_is_word : FnP K "is_word" "is_word" s_is_word f_is_word d_is_word
  g_is_word : mg "is_word" = some (.ref f_is_word)
  f_is_text : Addr
  d_is_text : FuncData
  F_is_text : FnP K "is_text" "is_text" s_is_text f_is_text d_is_text
  g_is_text : mg "is_text" = some (.ref f_is_text)
  f_is_deed_id : Addr
  d_is_deed_id : FuncData
  F_is_deed_id : FnP K "is_deed_id" "is_deed_id" s_is_deed_id f_is_deed_id d_is_deed_id
  g_is_deed_id : mg "is_deed_id" = some (.ref f_is_deed_id)
  f_is_block_id : Addr
  d_is_block_id : FuncData
  F_is_block_id : FnP K "is_block_id" "is_block_id" s_is_block_id f_is_block_id d_is_block_id
  g_is_block_id : mg "is_block_id" = some (.ref f_is_block_id)
  f_is_sign_id : Addr
  d_is_sign_id : FuncData
  F_is_sign_id : FnP K "is_sign_id" "is_sign_id" s_is_sign_id f_is_sign_id d_is_sign_id
  g_is_sign_id : mg "is_sign_id" = some (.ref f_is_sign_id)
  f_is_part : Addr
  d_is_part : FuncData
  F_is_part : FnP K "is_part" "is_part" s_is_part f_is_part d_is_part
  g_is_part : mg "is_part" = some (.ref f_is_part)
  f_is_act : Addr
  d_is_act : FuncData
  F_is_act : FnP K "is_act" "is_act" s_is_act f_is_act d_is_act
  g_is_act : mg "is_act" = some (.ref f_is_act)
  f_is_deed : Addr
  d_is_deed : FuncData
  F_is_deed : FnP K "is_deed" "is_deed" s_is_deed f_is_deed d_is_deed
  g_is_deed : mg "is_deed" = some (.ref f_is_deed)
  f_id_of : Addr
  d_id_of : FuncData
  F_id_of : FnP K "id_of" "id_of" s_id_of f_id_of d_id_of
  g_id_of : mg "id_of" = some (.ref f_id_of)
  f_Deeds___init__ : Addr
  d_Deeds___init__ : FuncData
  F_Deeds___init__ : FnP K "__init__" "Deeds.__init__" s_Deeds___init__ f_Deeds___init__ d_Deeds___init__
  f_Deeds_greatest_time : Addr
  d_Deeds_greatest_time : FuncData
  F_Deeds_greatest_time : FnP K "greatest_time" "Deeds.greatest_time" s_Deeds_greatest_time f_Deeds_greatest_time d_Deeds_greatest_time
  f_Deeds_has : Addr
  d_Deeds_has : FuncData
  F_Deeds_has : FnP K "has" "Deeds.has" s_Deeds_has f_Deeds_has d_Deeds_has
  f_Deeds_within : Addr
  d_Deeds_within : FuncData
  F_Deeds_within : FnP K "within" "Deeds.within" s_Deeds_within f_Deeds_within d_Deeds_within
  f_Deeds_in_turn : Addr
  d_Deeds_in_turn : FuncData
  F_Deeds_in_turn : FnP K "in_turn" "Deeds.in_turn" s_Deeds_in_turn f_Deeds_in_turn d_Deeds_in_turn
  f_Deeds_clock : Addr
  d_Deeds_clock : FuncData
  F_Deeds_clock : FnP K "clock" "Deeds.clock" s_Deeds_clock f_Deeds_clock d_Deeds_clock
  f_Deeds_is_cut : Addr
  d_Deeds_is_cut : FuncData
  F_Deeds_is_cut : FnP K "is_cut" "Deeds.is_cut" s_Deeds_is_cut f_Deeds_is_cut d_Deeds_is_cut
  f_Deeds_is_block : Addr
  d_Deeds_is_block : FuncData
  F_Deeds_is_block : FnP K "is_block" "Deeds.is_block" s_Deeds_is_block f_Deeds_is_block d_Deeds_is_block
  f_are_closed : Addr
  d_are_closed : FuncData
  F_are_closed : FnP K "are_closed" "are_closed" s_are_closed f_are_closed d_are_closed
  g_are_closed : mg "are_closed" = some (.ref f_are_closed)
  f_is_last_a_bar : Addr
  d_is_last_a_bar : FuncData
  F_is_last_a_bar : FnP K "is_last_a_bar" "is_last_a_bar" s_is_last_a_bar f_is_last_a_bar d_is_last_a_bar
  g_is_last_a_bar : mg "is_last_a_bar" = some (.ref f_is_last_a_bar)
  f_are_neighbours : Addr
  d_are_neighbours : FuncData
  F_are_neighbours : FnP K "are_neighbours" "are_neighbours" s_are_neighbours f_are_neighbours d_are_neighbours
  g_are_neighbours : mg "are_neighbours" = some (.ref f_are_neighbours)
  f_fits_write : Addr
  d_fits_write : FuncData
  F_fits_write : FnP K "fits_write" "fits_write" s_fits_write f_fits_write d_fits_write
  g_fits_write : mg "fits_write" = some (.ref f_fits_write)
  f_fits_blocks : Addr
  d_fits_blocks : FuncData
  F_fits_blocks : FnP K "fits_blocks" "fits_blocks" s_fits_blocks f_fits_blocks d_fits_blocks
  g_fits_blocks : mg "fits_blocks" = some (.ref f_fits_blocks)
  f_fits_past : Addr
  d_fits_past : FuncData
  F_fits_past : FnP K "fits_past" "fits_past" s_fits_past f_fits_past d_fits_past
  g_fits_past : mg "fits_past" = some (.ref f_fits_past)
  f_made : Addr
  d_made : FuncData
  F_made : FnP K "made" "made" s_made f_made d_made
  g_made : mg "made" = some (.ref f_made)
  f_need_history : Addr
  d_need_history : FuncData
  F_need_history : FnP K "need_history" "need_history" s_need_history f_need_history d_need_history
  g_need_history : mg "need_history" = some (.ref f_need_history)
  f_part : Addr
  d_part : FuncData
  F_part : FnP K "part" "part" s_part f_part d_part
  g_part : mg "part" = some (.ref f_part)
  f_block_looked_at : Addr
  d_block_looked_at : FuncData
  F_block_looked_at : FnP K "block_looked_at" "block_looked_at" s_block_looked_at f_block_looked_at d_block_looked_at
  g_block_looked_at : mg "block_looked_at" = some (.ref f_block_looked_at)
  f_row_of : Addr
  d_row_of : FuncData
  F_row_of : FnP K "row_of" "row_of" s_row_of f_row_of d_row_of
  g_row_of : mg "row_of" = some (.ref f_row_of)
  f_parent_of : Addr
  d_parent_of : FuncData
  F_parent_of : FnP K "parent_of" "parent_of" s_parent_of f_parent_of d_parent_of
  g_parent_of : mg "parent_of" = some (.ref f_parent_of)
  f_open_row_signs : Addr
  d_open_row_signs : FuncData
  F_open_row_signs : FnP K "open_row" "open_row" s_open_row_signs f_open_row_signs d_open_row_signs
  g_open_row_signs : mg "open_row_signs" = some (.ref f_open_row_signs)
  f__law_so : Addr
  d__law_so : FuncData
  F__law_so : FnP K "_law_so" "_law_so" s__law_so f__law_so d__law_so
  g__law_so : mg "_law_so" = some (.ref f__law_so)
  f__law_numbers : Addr
  d__law_numbers : FuncData
  F__law_numbers : FnP K "_law_numbers" "_law_numbers" s__law_numbers f__law_numbers d__law_numbers
  g__law_numbers : mg "_law_numbers" = some (.ref f__law_numbers)
  f__law_draw : Addr
  d__law_draw : FuncData
  F__law_draw : FnP K "_law_draw" "_law_draw" s__law_draw f__law_draw d__law_draw
  g__law_draw : mg "_law_draw" = some (.ref f__law_draw)
  f__law_id : Addr
  d__law_id : FuncData
  F__law_id : FnP K "_law_id" "_law_id" s__law_id f__law_id d__law_id
  g__law_id : mg "_law_id" = some (.ref f__law_id)
  f__law_known : Addr
  d__law_known : FuncData
  F__law_known : FnP K "_law_known" "_law_known" s__law_known f__law_known d__law_known
  g__law_known : mg "_law_known" = some (.ref f__law_known)
  f__law_both : Addr
  d__law_both : FuncData
  F__law_both : FnP K "_law_both" "_law_both" s__law_both f__law_both d__law_both
  g__law_both : mg "_law_both" = some (.ref f__law_both)
  f__law_mixed : Addr
  d__law_mixed : FuncData
  F__law_mixed : FnP K "_law_mixed" "_law_mixed" s__law_mixed f__law_mixed d__law_mixed
  g__law_mixed : mg "_law_mixed" = some (.ref f__law_mixed)
  f__law_above : Addr
  d__law_above : FuncData
  F__law_above : FnP K "_law_above" "_law_above" s__law_above f__law_above d__law_above
  g__law_above : mg "_law_above" = some (.ref f__law_above)
  f__law_tree : Addr
  d__law_tree : FuncData
  F__law_tree : FnP K "_law_tree" "_law_tree" s__law_tree f__law_tree d__law_tree
  g__law_tree : mg "_law_tree" = some (.ref f__law_tree)
  f__law_row : Addr
  d__law_row : FuncData
  F__law_row : FnP K "_law_row" "_law_row" s__law_row f__law_row d__law_row
  g__law_row : mg "_law_row" = some (.ref f__law_row)
  f__law_written : Addr
  d__law_written : FuncData
  F__law_written : FnP K "_law_written" "_law_written" s__law_written f__law_written d__law_written
  g__law_written : mg "_law_written" = some (.ref f__law_written)
  f__law_places : Addr
  d__law_places : FuncData
  F__law_places : FnP K "_law_places" "_law_places" s__law_places f__law_places d__law_places
  g__law_places : mg "_law_places" = some (.ref f__law_places)
  f__law_agrees : Addr
  d__law_agrees : FuncData
  F__law_agrees : FnP K "_law_agrees" "_law_agrees" s__law_agrees f__law_agrees d__law_agrees
  g__law_agrees : mg "_law_agrees" = some (.ref f__law_agrees)
  f__law_refused : Addr
  d__law_refused : FuncData
  F__law_refused : FnP K "_law_refused" "_law_refused" s__law_refused f__law_refused d__law_refused
  g__law_refused : mg "_law_refused" = some (.ref f__law_refused)
  f_law : Addr
  d_law : FuncData
  F_law : FnP K "law" "law" s_law f_law d_law
  g_law : mg "law" = some (.ref f_law)
  C_SignTrees : Addr
  g_SignTrees : mg "SignTrees" = some (.ref C_SignTrees)
  c_SignTrees : Cls K C_SignTrees
  mk_SignTrees : Mk K C_SignTrees f_SignTrees___init__
  m_SignTrees_hang_text : Meth K C_SignTrees "hang_text" f_SignTrees_hang_text
  m_SignTrees_hang : Meth K C_SignTrees "hang" f_SignTrees_hang
  m_SignTrees_place_between : Meth K C_SignTrees "place_between" f_SignTrees_place_between
  m_SignTrees_is_above : Meth K C_SignTrees "is_above" f_SignTrees_is_above
  m_SignTrees_row_under : Meth K C_SignTrees "row_under" f_SignTrees_row_under
  C_Deeds : Addr
  g_Deeds : mg "Deeds" = some (.ref C_Deeds)
  c_Deeds : Cls K C_Deeds
  mk_Deeds : Mk K C_Deeds f_Deeds___init__
  m_Deeds_greatest_time : Meth K C_Deeds "greatest_time" f_Deeds_greatest_time
  m_Deeds_has : Meth K C_Deeds "has" f_Deeds_has
  m_Deeds_within : Meth K C_Deeds "within" f_Deeds_within
  m_Deeds_in_turn : Meth K C_Deeds "in_turn" f_Deeds_in_turn
  m_Deeds_clock : Meth K C_Deeds "clock" f_Deeds_clock
  m_Deeds_is_cut : Meth K C_Deeds "is_cut" f_Deeds_is_cut
  m_Deeds_is_block : Meth K C_Deeds "is_block" f_Deeds_is_block
  n_SignTrees_parent : NoAttr K C_SignTrees "parent"
  n_SignTrees_block_of : NoAttr K C_SignTrees "block_of"
  n_SignTrees_below : NoAttr K C_SignTrees "below"
  n_Deeds_by_id : NoAttr K C_Deeds "by_id"
  n_Deeds_time : NoAttr K C_Deeds "time"
  n_Deeds_kept : NoAttr K C_Deeds "kept"
  n_Deeds_parts : NoAttr K C_Deeds "parts"
  n_Deeds_turn : NoAttr K C_Deeds "turn"
  a_HANDS_clocks : Addr
  g_HANDS_clocks : mg "HANDS_clocks" = some (.ref a_HANDS_clocks)
  q_HANDS_clocks : ∀ H, SqT K H a_HANDS_clocks (([1, 2, 3, 4] : List Int).map V.int)
  a_NOUGHT : Addr
  g_NOUGHT : mg "NOUGHT" = some (.ref a_NOUGHT)
  q_NOUGHT : ∀ H, SqT K H a_NOUGHT (([0, 0, 0, 0] : List Int).map V.int)
  a_ROOT_core_signs : Addr
  g_ROOT_core_signs : mg "ROOT_core_signs" = some (.ref a_ROOT_core_signs)
  q_ROOT_core_signs : ∀ H, SqT K H a_ROOT_core_signs (([0, 0] : List Int).map V.int)
  a_ROOT_deeds : Addr
  g_ROOT_deeds : mg "ROOT_deeds" = some (.ref a_ROOT_deeds)
  q_ROOT_deeds : ∀ H, SqT K H a_ROOT_deeds (([0, 0] : List Int).map V.int)
  k_LETTERS : Tok
  g_LETTERS : mg "LETTERS" = some (.str "abcdefghijklmnopqrstuvwxyz" k_LETTERS)
  k_TEXT_SIGNS : Tok
  g_TEXT_SIGNS : mg "TEXT_SIGNS" = some (.str "abcdefghijklmnopqrstuvwxyz " k_TEXT_SIGNS)
  k_MOST_SIGNS : Tok
  g_MOST_SIGNS : mg "MOST_SIGNS" = some (.int 8 k_MOST_SIGNS)
  c_I : Addr
  p_I : Addr
  code_I : d_Deeds___init__.code = .ref c_I
  tab_I : LamX.TabB base mg c_I p_I
  hT : T = [(p_I, (("Deeds.__init__" : Str) ++ ".<locals>.") ++ "<lambda>")]
  a_PARTS : Addr
  g_PARTS : mg "PARTS" = some (.ref a_PARTS)
  D_PARTS : ∃ es n, KDict K w a_PARTS es n
  v_write : ∃ u, PySem.W.nsIn K a_PARTS "write" = some (some u) ∧ RelV (.str "bppt") u
  v_block : ∃ u, PySem.W.nsIn K a_PARTS "block" = some (some u) ∧ RelV (.str "bB") u
  f_NoBlock___init__ : Addr
  d_NoBlock___init__ : FuncData
  F_NoBlock___init__ : FnP K "__init__" "NoBlock.__init__" s_NoBlock___init__ f_NoBlock___init__ d_NoBlock___init__
  C_NoBlock : Addr
  g_NoBlock : mg "NoBlock" = some (.ref C_NoBlock)
  x_NoBlock : OexC K C_NoBlock
  xf_NoBlock : XfC K C_NoBlock
  i_NoBlock : PySem.W.findIn K (.ref C_NoBlock) "__init__" = some (some (.ref f_NoBlock___init__))
  ti_NoBlock : PySem.W.typeIn K (.ref f_NoBlock___init__) = some (.type "function")
  n_NoBlock : PySem.W.findIn K (.ref C_NoBlock) "block" = some none
  e_NoBlock : PySem.W.exmOne K (.ref C_NoBlock) (.ref C_NoBlock) = some true
  f_NoSign___init__ : Addr
  d_NoSign___init__ : FuncData
  F_NoSign___init__ : FnP K "__init__" "NoSign.__init__" s_NoSign___init__ f_NoSign___init__ d_NoSign___init__
  C_NoSign : Addr
  g_NoSign : mg "NoSign" = some (.ref C_NoSign)
  x_NoSign : OexC K C_NoSign
  xf_NoSign : XfC K C_NoSign
  i_NoSign : PySem.W.findIn K (.ref C_NoSign) "__init__" = some (some (.ref f_NoSign___init__))
  ti_NoSign : PySem.W.typeIn K (.ref f_NoSign___init__) = some (.type "function")
  n_NoSign : PySem.W.findIn K (.ref C_NoSign) "sign" = some none
  e_NoSign : PySem.W.exmOne K (.ref C_NoSign) (.ref C_NoSign) = some true
section
variable {K : Fg} {mg : Str → Option Value} {w : World} {T : List (Addr × Str)} {base : Heap}
theorem Tp.r_PARTS (E : Tp K mg w T base) : RelV (.ref E.a_PARTS) (.ref E.a_PARTS) := rfl
theorem Tp.r_HANDS_clocks (E : Tp K mg w T base) : RelV (.ref E.a_HANDS_clocks) (.ref E.a_HANDS_clocks) := rfl
theorem Tp.r_NOUGHT (E : Tp K mg w T base) : RelV (.ref E.a_NOUGHT) (.ref E.a_NOUGHT) := rfl
theorem Tp.r_ROOT_core_signs (E : Tp K mg w T base) : RelV (.ref E.a_ROOT_core_signs) (.ref E.a_ROOT_core_signs) := rfl
theorem Tp.r_ROOT_deeds (E : Tp K mg w T base) : RelV (.ref E.a_ROOT_deeds) (.ref E.a_ROOT_deeds) := rfl
theorem Tp.r_LETTERS (E : Tp K mg w T base) : RelV (.str "abcdefghijklmnopqrstuvwxyz") (.str "abcdefghijklmnopqrstuvwxyz" E.k_LETTERS) := ⟨_, rfl⟩
theorem Tp.r_TEXT_SIGNS (E : Tp K mg w T base) : RelV (.str "abcdefghijklmnopqrstuvwxyz ") (.str "abcdefghijklmnopqrstuvwxyz " E.k_TEXT_SIGNS) := ⟨_, rfl⟩
theorem Tp.r_MOST_SIGNS (E : Tp K mg w T base) : RelV (.int 8) (.int 8 E.k_MOST_SIGNS) := ⟨_, rfl⟩
end
theorem hu9 {A : Around} {k : Nat} (hr : Room k A) : A.units + 9 < cLine := by have := hr.un; omega
theorem hu64 {A : Around} {k : Nat} (hr : Room k A) : A.units + 64 < cLine := hr.units
end K20
namespace K20
open PySem PySem.Spec PyProof.Rows L2
section
variable {K : Fg}
theorem kt_num_int (i : Int) : PySem.W.kitOne K (.type (tyD (.num i))) (.type "int") = some true := kit_ty (a := "int") (by decide +kernel)
theorem kt_num_bool (i : Int) : PySem.W.kitOne K (.type (tyD (.num i))) (.type "bool") = some false := kit_ty (a := "int") (by decide +kernel)
theorem kt_num_str (i : Int) : PySem.W.kitOne K (.type (tyD (.num i))) (.type "str") = some false := kit_ty (a := "int") (by decide +kernel)
theorem kt_num_tuple (i : Int) : PySem.W.kitOne K (.type (tyD (.num i))) (.type "tuple") = some false := kit_ty (a := "int") (by decide +kernel)
theorem kt_text_int (x : Str) : PySem.W.kitOne K (.type (tyD (.text x))) (.type "int") = some false := kit_ty (a := "str") (by decide +kernel)
theorem kt_text_bool (x : Str) : PySem.W.kitOne K (.type (tyD (.text x))) (.type "bool") = some false := kit_ty (a := "str") (by decide +kernel)
theorem kt_text_str (x : Str) : PySem.W.kitOne K (.type (tyD (.text x))) (.type "str") = some true := kit_ty (a := "str") (by decide +kernel)
theorem kt_text_tuple (x : Str) : PySem.W.kitOne K (.type (tyD (.text x))) (.type "tuple") = some false := kit_ty (a := "str") (by decide +kernel)
theorem kt_tup_int (l : List D) : PySem.W.kitOne K (.type (tyD (.tup l))) (.type "int") = some false := kit_ty (a := "tuple") (by decide +kernel)
theorem kt_tup_bool (l : List D) : PySem.W.kitOne K (.type (tyD (.tup l))) (.type "bool") = some false := kit_ty (a := "tuple") (by decide +kernel)
theorem kt_tup_str (l : List D) : PySem.W.kitOne K (.type (tyD (.tup l))) (.type "str") = some false := kit_ty (a := "tuple") (by decide +kernel)
theorem kt_tup_tuple (l : List D) : PySem.W.kitOne K (.type (tyD (.tup l))) (.type "tuple") = some true := kit_ty (a := "tuple") (by decide +kernel)
end
section
variable {α β γ δ ε : Type}
/-! ### promises of defs that change nothing -/
def a1 (Y : Hp → V → α → Prop) : Hp → List V → α → Prop := fun H vs a => ∃ v, vs = [v] ∧ Y H v a
def a2 (Y : Hp → V → α → Prop) (Z : Hp → V → β → Prop) : Hp → List V → α × β → Prop := fun H vs a => ∃ v w, vs = [v, w] ∧ Y H v a.1 ∧ Z H w a.2
def a3 (Y : Hp → V → α → Prop) (Z : Hp → V → β → Prop) (W : Hp → V → γ → Prop) : Hp → List V → α × β × γ → Prop := fun H vs a => ∃ v w x, vs = [v, w, x] ∧ Y H v a.1 ∧ Z H w a.2.1 ∧ W H x a.2.2
def a4 (Y : Hp → V → α → Prop) (Z : Hp → V → β → Prop) (W : Hp → V → γ → Prop) (U : Hp → V → δ → Prop) : Hp → List V → α × β × γ × δ → Prop := fun H vs a => ∃ v w x y, vs = [v, w, x, y] ∧ Y H v a.1 ∧ Z H w a.2.1 ∧ W H x a.2.2.1 ∧ U H y a.2.2.2
def PSp (T : List (Addr × Str)) (A : Hp → List V → α → Prop) (pre : α → Prop) (Y : Hp → V → β → Prop) (f : α → β) : Sp := fun vs H Q _ => ∃ a, A H vs a ∧ pre a ∧ ∀ v H', Rp T H H' → Y H' v (f a) → Q v H'
variable {K : Fg} {T : List (Addr × Str)} {H H' : Hp} {σ : L2.St} {te ta tb tc td : TE} {tt tu : TT} {Y1 : Hp → V → α → Prop} {Y2 : Hp → V → β → Prop} {Y3 : Hp → V → γ → Prop} {Y4 : Hp → V → δ → Prop} {Y : Hp → V → ε → Prop} {E : XK}
theorem ev_c1 {pre : α → Prop} {f : α → ε} {a : α} (h : Ev T Y1 te σ H a) (hp : pre a) : Ev T Y (tCall (PSp T (a1 Y1) pre Y f) [] E (tCons te tNil)) σ H (f a) := fun H1 r1 Q q =>
  h H1 r1 _ fun v H2 r2 y => ⟨a, ⟨v, rfl, y⟩, hp, fun u H3 r3 z => q u H3 (r2.trans r3) z⟩
theorem ev_c2 [Mono T Y1] {pre : α × β → Prop} {f : α × β → ε} {a : α} {b : β} (h1 : Ev T Y1 ta σ H a) (h2 : Ev T Y2 tb σ H b) (hp : pre (a, b)) : Ev T Y (tCall (PSp T (a2 Y1 Y2) pre Y f) [] E (tCons ta (tCons tb tNil))) σ H (f (a, b)) := fun H1 r1 Q q =>
  h1 H1 r1 _ fun v H2 r2 y => h2 H2 (r1.trans r2) _ fun w H3 r3 z => ⟨(a, b), ⟨v, w, rfl, Mono.mono r3 y, z⟩, hp, fun u H4 r4 x => q u H4 (r2.trans (r3.trans r4)) x⟩
theorem ev_c3 [Mono T Y1] [Mono T Y2] {pre : α × β × γ → Prop} {f : α × β × γ → ε} {a : α} {b : β} {c : γ} (h1 : Ev T Y1 ta σ H a) (h2 : Ev T Y2 tb σ H b) (h3 : Ev T Y3 tc σ H c) (hp : pre (a, b, c)) :
    Ev T Y (tCall (PSp T (a3 Y1 Y2 Y3) pre Y f) [] E (tCons ta (tCons tb (tCons tc tNil)))) σ H (f (a, b, c)) := fun H1 r1 Q q =>
  h1 H1 r1 _ fun v H2 r2 y => h2 H2 (r1.trans r2) _ fun w H3 r3 z => h3 H3 (r1.trans (r2.trans r3)) _ fun x H4 r4 u => ⟨(a, b, c), ⟨v, w, x, rfl, Mono.mono (r3.trans r4) y, Mono.mono r4 z, u⟩, hp, fun o H5 r5 p => q o H5 (r2.trans (r3.trans (r4.trans r5))) p⟩
theorem ev_c4 [Mono T Y1] [Mono T Y2] [Mono T Y3] {pre : α × β × γ × δ → Prop} {f : α × β × γ × δ → ε} {a : α} {b : β} {c : γ} {d : δ} (h1 : Ev T Y1 ta σ H a) (h2 : Ev T Y2 tb σ H b) (h3 : Ev T Y3 tc σ H c) (h4 : Ev T Y4 td σ H d) (hp : pre (a, b, c, d)) :
    Ev T Y (tCall (PSp T (a4 Y1 Y2 Y3 Y4) pre Y f) [] E (tCons ta (tCons tb (tCons tc (tCons td tNil))))) σ H (f (a, b, c, d)) := fun H1 r1 Q q =>
  h1 H1 r1 _ fun v H2 r2 y => h2 H2 (r1.trans r2) _ fun w H3 r3 z => h3 H3 (r1.trans (r2.trans r3)) _ fun x H4 r4 u => h4 H4 (r1.trans (r2.trans (r3.trans r4))) _ fun x' H5 r5 u' =>
    ⟨(a, b, c, d), ⟨v, w, x, x', rfl, Mono.mono (r3.trans (r4.trans r5)) y, Mono.mono (r4.trans r5) z, Mono.mono r5 u, u'⟩, hp, fun o H6 r6 p => q o H6 (r2.trans (r3.trans (r4.trans (r5.trans r6)))) p⟩
/-- what a body gives back -/
def Rets (T : List (Addr × Str)) (Y : Hp → V → ε → Prop) (t : TS) (σ : L2.St) (H : Hp) (e : ε) : Prop := ∀ H1, Rp T H H1 → ∀ D : Ends, (∀ v H2, Rp T H1 H2 → Y H2 v e → D.rt v H2) → t D σ H1
theorem rt_mono {t : TS} {e : ε} (r : Rp T H H') (h : Rets T Y t σ H e) : Rets T Y t σ H' e := fun H1 r1 D k => h H1 (r.trans r1) D k
theorem rt_ret {e : ε} (h : Ev T Y te σ H e) : Rets T Y (tRet te) σ H e := fun H1 r1 D k => h H1 r1 _ fun v H2 r2 y => k v H2 r2 y
theorem rt_retE {e e' : ε} (h : Ev T Y te σ H e') (q : e' = e) : Rets T Y (tRet te) σ H e := q ▸ rt_ret h
theorem rt_retS {e : ε} {u : TS} (h : Ev T Y te σ H e) : Rets T Y (tSeq (tRet te) u) σ H e := fun H1 r1 D k => h H1 r1 _ fun v H2 r2 y => k v H2 r2 y
theorem rt_set {i : Nat} {u : TS} {a : α} {e : ε} (h : Ev T Y1 te σ H a) (k : ∀ v H1, Rp T H H1 → Y1 H1 v a → Rets T Y u (σ.set i (some v)) H1 e) : Rets T Y (tSeq (tAsg te (gName i)) u) σ H e := fun H1 r1 D q => h H1 r1 _ fun v H2 r2 y =>
  k v H2 (r1.trans r2) y H2 (Rp.refl _) D fun w H3 r3 z => q w H3 (r2.trans r3) z
/-- if c: return ..; rest -/
theorem rt_ifs {t u : TS} {c : Bool} {e : ε} (h : EvT T tt σ H c) (h1 : c = true → Rets T Y (tSeq t u) σ H e) (h2 : c = false → Rets T Y u σ H e) : Rets T Y (tSeq (tIfS tt t tNext) u) σ H e := fun H1 r1 D k => h H1 r1 _ fun H2 r2 => by
  cases c with
  | true => exact iteT (h1 rfl H2 (r1.trans r2) D fun v H3 r3 y => k v H3 (r2.trans r3) y)
  | false => exact iteF (h2 rfl H2 (r1.trans r2) D fun v H3 r3 y => k v H3 (r2.trans r3) y)
theorem rt_no {t u : TS} {e : ε} (h : EvT T tt σ H false) (h2 : Rets T Y u σ H e) : Rets T Y (tSeq (tIfS tt t tNext) u) σ H e := rt_ifs h (fun z => by cases z) fun _ => h2
theorem rt_yes {t u : TS} {e : ε} (h : EvT T tt σ H true) (h2 : Rets T Y (tSeq t u) σ H e) : Rets T Y (tSeq (tIfS tt t tNext) u) σ H e := rt_ifs h (fun _ => h2) fun z => by cases z
/-- a, b = e -/
theorem ok_rets {K : Fg} {P : Program} {w : World} {mg : Str → Option Value} {base : Heap} {k : Nat} {f : Addr} {fd : FuncData} {N ps : List Str} {st : Stmt} {x qual : Str} {A : Hp → List V → α → Prop} {pre : α → Prop} {g : α → ε} (F : FnP K x qual st f fd) (S : FnScope N ps (defScope st)) (hl : ∀ H vs a, A H vs a → vs.length = ps.length)
    (h : ∀ (cdv : Value) (Ar : Around) (outer : List Env) (s : Shared) (H : Hp) (Ex : XK), Room k (Ar.deeper (envOfC qual (defScope st) s.heap.objs.size f cdv)) → ∃ t, PSs (cxOf CX0 P w K mg base N qual (defScope st) f cdv Ar outer s H Ex) (defBody st) t ∧ ∀ vs a, A H vs a → pre a → Rets T Y t (start N vs) H (g a)) :
    FnOk P w K mg base CX0 (k + 1) f fd ps (PSp T A pre Y g) := by
  refine F.ok S (fun vs H Q E ⟨a, h1, _⟩ => hl H vs a h1) (fun cdv Ar outer s H vs Q Ex hr hs => ?_)
  obtain ⟨a, h1, h2, q⟩ := hs
  obtain ⟨t, ht, hk⟩ := h cdv Ar outer s H Ex hr
  exact ⟨t, ht, hk vs a h1 h2 H (Rp.refl _) _ q⟩
theorem len1 {Y1 : Hp → V → α → Prop} {H : Hp} {vs : List V} {a : α} (h : a1 Y1 H vs a) : vs.length = 1 := by obtain ⟨v, rfl, _⟩ := h; rfl
theorem len2 {H : Hp} {vs : List V} {a : α × β} (h : a2 Y1 Y2 H vs a) : vs.length = 2 := by obtain ⟨v, w, rfl, _⟩ := h; rfl
theorem len3 {H : Hp} {vs : List V} {a : α × β × γ} (h : a3 Y1 Y2 Y3 H vs a) : vs.length = 3 := by obtain ⟨v, w, x, rfl, _⟩ := h; rfl
theorem len4 {H : Hp} {vs : List V} {a : α × β × γ × δ} (h : a4 Y1 Y2 Y3 Y4 H vs a) : vs.length = 4 := by obtain ⟨v, w, x, y, rfl, _⟩ := h; rfl
end
end K20
namespace K20
open PySem PySem.Spec PyProof.Rows L2
section
variable {K : Fg} {T : List (Addr × Str)} {H H' : Hp} {σ : L2.St} {te ta tb tl : TE} {tt : TT} {wi : TI} {β γ δ : Type} {Y : Hp → V → β → Prop} {Z : Hp → V → γ → Prop} {W : Hp → V → δ → Prop}
/-- a tuple of ints -/
abbrev yk (K : Fg) : Hp → V → List Int → Prop := fun H v k => Dt K H v (tI k)
instance : Imm (yk K) := ⟨fun r h => Imm.imm (Y := yD K) r h⟩
theorem dtl_ints : ∀ {vs : List V} {k : List Int}, DtL K H vs (k.map NestedKey.num) → vs = k.map V.int
  | _, [], .nil => rfl
  | _, i :: k, .cons a b => by
    rw [a.num_inv, dtl_ints b]
    rfl
theorem ints_dtl : ∀ k : List Int, DtL K H (k.map V.int) (k.map NestedKey.num)
  | [] => .nil
  | i :: k => .cons (.int i) (ints_dtl k)
theorem yk_inv {v : V} {k : List Int} (h : yk K H v k) : ∃ a, v = .ref a ∧ SqT K H a (k.map V.int) := by
  obtain ⟨a, xs, e, s, l⟩ := Dt.tup_inv h
  rw [dtl_ints l] at s
  exact ⟨a, e, s⟩
theorem yk_of {a : Addr} {k : List Int} (h : SqT K H a (k.map V.int)) : yk K H (.ref a) k := .tup h (ints_dtl k)
theorem paired_ints : ∀ k : List Int, Paired (yI H) (k.map V.int) k
  | [] => .nil
  | i :: k => .cons rfl (paired_ints k)
theorem ev_kT {k : List Int} (h : Ev T (yk K) te σ H k) : Ev T (yT K yI) te σ H k := h.imp fun _ _ _ y => by
  obtain ⟨a, e, s⟩ := yk_inv y
  exact ⟨a, _, e, s, paired_ints k⟩
theorem ev_Tk {k : List Int} (h : Ev T (yT K yI) te σ H k) : Ev T (yk K) te σ H k := h.imp fun _ _ _ y => by
  obtain ⟨a, vs, e, s, l⟩ := y
  subst e
  have z := int_map l
  subst z
  exact yk_of s
theorem ev_kD {k : List Int} (h : Ev T (yk K) te σ H k) : Ev T (yD K) te σ H (tI k) := h
theorem ev_Dk {k : List Int} (h : Ev T (yD K) te σ H (tI k)) : Ev T (yk K) te σ H k := h
theorem ev_tc {a : Addr} {k : List Int} (h : ∀ H, SqT K H a (k.map V.int)) : Ev T (yk K) (tC (.ref a)) σ H k := ev_c fun H => yk_of (h H)
theorem ev_suk {P : Program} {w : World} {k : List Int} {i j : Int} (ha : Ev T (yk K) ta σ H k) (hb : Ev T yI tb σ H i) (e : atI k i = some j) : Ev T yI (tOp (rSub K P w) ta tb) σ H j := ev_suT (ev_kT ha) hb e
theorem ev_lek {P : Program} {w : World} {k : List Int} (ha : Ev T (yk K) ta σ H k) : Ev T yI (tCB (rLenU K P w) (tCons ta tNil)) σ H (k.length : Int) := ev_leT (ev_kT ha)
/-- (a, b, ..) of ints -/
theorem ev_tupk {t : TA} {k : List Int} (h : EvDs T yI t σ H k) (hl : k.length ≤ sizeLine) : Ev T (yk K) (tTup t) σ H k := ev_Tk (ev_tupT h hl)
theorem ev_ck {e : List Int} {k : List Int} (h : Ev T (yk K) te σ H k) (q : k = e) : Ev T (yk K) te σ H e := q ▸ h
/-! ### walks -/
theorem zip_get : ∀ {as : List β} {bs : List γ} {i : Nat} {a : β} {b : γ}, as[i]? = some a → bs[i]? = some b → (as.zip bs)[i]? = some (a, b) := fun {as bs i a b} h1 h2 => by
  rw [List.getElem?_zip_eq_some]
  exact ⟨h1, h2⟩
theorem walk_zipT {a b : Addr} {xs ys : List V} {n : Nat} (hn : n = min xs.length ys.length) : Walk (RZ.ItzT K a b) n (fun H => SqT K H a xs ∧ SqT K H b ys) (YPair (fun i => xs[i]?) (fun i => ys[i]?)) := by
  subst hn
  refine ⟨fun j _ hj both => ?_, fun _ both => ⟨xs, ys, both.1, both.2, by omega⟩, fun j H v H' _ q y => ?_⟩
  · have l1 : j < xs.length := Nat.lt_of_lt_of_le hj (Nat.min_le_left _ _)
    have l2 : j < ys.length := Nat.lt_of_lt_of_le hj (Nat.min_le_right _ _)
    exact ⟨xs, ys, _, _, both.1, both.2, List.getElem?_eq_getElem l1, List.getElem?_eq_getElem l2⟩
  · obtain ⟨t, x, z, h1, h2, h3, h4, h5⟩ := y
    exact ⟨t, x, z, h1, h2, h3, h4 xs q.1, h5 ys q.2⟩
theorem evi_zipT [Mono T Y] [Mono T Z] {as : List β} {bs : List γ} (h1 : Ev T (yT K Y) ta σ H as) (h2 : Ev T (yT K Z) tb σ H bs) : EvI T (yP K Y Z) (RZ.iZipA K (tCons ta (tCons tb tNil))) σ H (as.zip bs) := fun H1 r1 Rk k =>
  h1 H1 r1 _ fun v H2 r2 ⟨a, vs, e1, s1, l1⟩ => h2 H2 (r1.trans r2) _ fun u H3 r3 ⟨b, us, e2, s2, l2⟩ => by
    subst e1 e2
    refine ⟨a, b, vs, us, rfl, .inr ⟨r3.tup s1, s2, k _ H3 (r2.trans r3) ?_⟩⟩
    refine (walk_zipT (K := K) (a := a) (b := b) (xs := vs) (ys := us) (by rw [List.length_zip, l1.length, l2.length])).mono (fun H4 r4 => ⟨r4.tup (r3.tup s1), r4.tup s2⟩) fun i H4 x H5 hi r4 y => ?_
    obtain ⟨t, p, q, e, ht, e5, hp, hq⟩ := y
    subst e e5
    obtain ⟨b1, g1, y1⟩ := paired_get l1 hp
    obtain ⟨b2, g2, y2⟩ := paired_get l2 hq
    have r5 : Rp T H4 (upd H4 t (.tup [p, q])) := Rp.new ht
    exact ⟨r5, (b1, b2), zip_get g1 g2, t, p, q, rfl, SqT.of upd_same, Mono.mono (r3.trans (r4.trans r5)) y1, Mono.mono (r4.trans r5) y2⟩
/-- a text, sign by sign -/
def sign (c : Nat) : Str := ⟨#[c]⟩
theorem evi_str {z : Str} (h : Ev T yS te σ H z) : EvI T yS (iStr te) σ H (z.cps.toList.map sign) := fun H1 r1 Rk k => h H1 r1 _ fun v H2 r2 e =>
  ⟨z, e, k _ H2 r2 (by
    rw [List.length_map, Array.length_toList]
    refine (walk_str (z := z)).mono (fun _ _ => trivial) fun i H3 x H4 hi r3 ⟨e1, c, hc, e2⟩ => ?_
    subst e1
    refine ⟨Rp.refl _, sign c, ?_, e2⟩
    rw [List.getElem?_map, Array.getElem?_toList, hc]
    rfl)⟩
/-- [te for i, j in wi] -/
theorem ev_lm2 {bs : List (β × γ)} {i j : Nat} {ws : List Nat} [iw : Imm W] [Mono T Y] (f : β × γ → δ) (hi : EvI T (yP K Y Z) wi σ H bs) (he : ∀ b ∈ bs, ∀ x y H1, Rp T H H1 → Y H1 x b.1 → Z H1 y b.2 → Ev T W te (((wipe σ ws).set i (some x)).set j (some y)) H1 (f b))
    (hw : ∀ x y, wipe (((wipe σ ws).set i (some x)).set j (some y)) ws = wipe σ ws) (hl : bs.length ≤ sizeLine) : Ev T (yL W) (tLc wi (gTup K 2 (gCons (gName i) (gCons (gName j) gNil))) tYes te ws) σ H (bs.map f) := fun H1 r1 Q q =>
  hi H1 r1 _ fun J H2 r2 Wk A hA => by
    refine lc_it Wk (fun i H3 => Rp T H2 H3 ∧ ∃ acc, H3 A = some (.lst acc) ∧ acc.length ≤ i ∧ Paired (W H3) acc ((bs.take i).map f)) ⟨Rp.new hA, [], upd_same, Nat.zero_le _, by rw [List.take_zero]; exact .nil⟩ (fun _ _ _ h => h.1) (fun n x H3 H4 hn ⟨r3, acc, e3, l3, p3⟩ ⟨r4, b, eb, y⟩ => ?_) fun H3 ⟨r3, acc, e3, _, p3⟩ => ?_
    · obtain ⟨a, x1, x2, ex, sx, y1, y2⟩ := y
      have hb := List.mem_of_getElem? eb
      have rr : Rp T H H4 := r1.trans (r2.trans (r3.trans r4))
      refine ⟨a, [x1, x2], ex, sx, rfl, x1, [x2], rfl, x2, [], rfl, rfl, hw x1 x2, ?_⟩
      refine et_yes (T := T) H4 (Rp.refl _) _ fun H5 r5 => ?_
      refine iteT (he b hb x1 x2 H4 rr y1 y2 H5 r5 _ fun z H6 r6' yz => ?_)
      have r6 : Rp T H4 H6 := r5.trans r6'
      rw [take_grow eb, List.map_append]
      have e6 := (r4.trans r6).lst e3
      refine ⟨acc, e6, Nat.lt_of_le_of_lt l3 (Nat.lt_of_lt_of_le hn hl), (r3.trans (r4.trans r6)).chgL hA e6, _, upd_same, by rw [List.length_append]; exact Nat.succ_le_succ l3, ?_⟩
      have tk : Tk H6 (upd H6 A (.lst (acc ++ [z]))) := Tk.updL e6
      exact paired_snoc (paired_imm tk (paired_imm (r4.trans r6).tk p3)) (iw.imm tk yz)
    · rw [List.take_length] at p3
      exact q _ H3 (r2.trans r3) ⟨A, acc, rfl, e3, p3⟩
end
end K20
namespace K20
open PySem PySem.Spec PyProof.Rows L2
section
variable {K : Fg} {T : List (Addr × Str)} {H H' : Hp} {σ : L2.St} {te ta tb tc tl : TE} {tlo thi : TO} {tt : TT} {wi : TI} {β γ δ : Type} {Y : Hp → V → β → Prop} {Z : Hp → V → γ → Prop} {W : Hp → V → δ → Prop}
/-- a < b < c, ints -/
theorem ev_chn {g g' : Int → Int → Bool} {i j k : Int} (ha : Ev T yI ta σ H i) (hb : Ev T yI tb σ H j) (hc : Ev T yI tc σ H k) : Ev T yB (tChain (rI0 fun i j => .bl (g i j)) (rI0 fun i j => .bl (g' i j)) ta tb tc) σ H (g i j && g' j k) := fun H1 r1 Q q =>
  ha H1 r1 _ fun x H2 r2 ex => hb H2 (r1.trans r2) _ fun y H3 r3 ey => ⟨i, j, ex, ey, g i j, rfl, by
    cases e : g i j with
    | true =>
      refine iteT (hc H3 (r1.trans (r2.trans r3)) _ fun z H4 r4 ez => ⟨j, k, ey, ez, ?_⟩)
      exact q _ H4 (r2.trans (r3.trans r4)) (by rw [e]; rfl)
    | false => exact iteF (q _ H3 (r2.trans r3) (by rw [e]; rfl))⟩
/-- t[lo:hi], a tuple -/
theorem ev_slT [my : Mono T Y] {bs : List β} {lo hi : Option Int} (h : Ev T (yT K Y) te σ H bs) (h1 : EvO T tlo σ H lo) (h2 : EvO T thi σ H hi) : Ev T (yT K Y) (tSl (rSlA K) te tlo thi) σ H (cutL bs lo hi) := fun H1 r1 Q q =>
  h H1 r1 _ fun v H2 r2 y => h1 H2 (r1.trans r2) _ fun H3 r3 => h2 H3 (r1.trans (r2.trans r3)) _ fun H4 r4 => by
    obtain ⟨a, vs, e, ha, l⟩ := y
    have l4 := paired_mono (r3.trans r4) l
    refine ⟨a, vs, e, (r3.trans r4).tup ha, fun w => ?_, fun w p hp => q _ _ (r2.trans (r3.trans (r4.trans (Rp.new hp)))) ⟨p, _, rfl, SqT.of upd_same, paired_cut (paired_mono (Rp.new (T := T) hp) l4) lo hi⟩⟩
    refine q _ H4 (r2.trans (r3.trans r4)) ⟨a, vs, rfl, (r3.trans r4).tup ha, ?_⟩
    have e : cutL bs lo hi = bs := by
      unfold cutL
      rw [l.length] at w
      rw [w.1, w.2]
      simp
    rw [e]
    exact l4
theorem ev_slD {ds : List D} {lo hi : Option Int} (h : Ev T (yD K) te σ H (.tup ds)) (h1 : EvO T tlo σ H lo) (h2 : EvO T thi σ H hi) : Ev T (yD K) (tSl (rSlA K) te tlo thi) σ H (.tup (cutL ds lo hi)) := ev_TD (ev_slT (ev_DT h) h1 h2)
end
/-! ### deeds as data -/
def oD : Option (List Int) → D
  | none => .none
  | some k => tI k
def pre (m : Nat) : Str := cutS "abcdefgh" none (some (m : Int))
def Act.d : Act → D
  | .wr b l r m => .tup [.text "write", tI b, oD l, oD r, .text (pre m)]
  | .bk b => .tup [.text "block", tI b, .none]
def Deed.d (x : Deed) : D := .tup [.num x.h, .num x.n, tI x.seen, x.act.d]
abbrev ydd (K : Fg) : Hp → V → Deed → Prop := fun H v x => Dt K H v x.d
instance {K : Fg} : Imm (ydd K) := ⟨fun r h => Imm.imm (Y := yD K) r h⟩
def Act.word : Act → Str
  | .wr .. => "write"
  | .bk _ => "block"
def Act.blk : Act → List Int
  | .wr b .. => b
  | .bk b => b
theorem act_0 (a : Act) : ∃ ds, a.d = .tup ds ∧ atI ds 0 = some (.text a.word) ∧ atI ds 1 = some (tI a.blk) := by
  cases a <;> exact ⟨_, rfl, rfl, rfl⟩
theorem ck_at {c : List Int} (hl : c.length = 4) {h : Int} (hh : Hand h) : atI c (h - 1) = some (ck c h) := by
  obtain ⟨a, b⟩ := hh
  have e : h - 1 = (((h - 1).toNat : Nat) : Int) := by omega
  rw [e]
  refine atI_nat ?_
  unfold ck
  rw [List.getD_eq_getElem?_getD]
  have : (h - 1).toNat < c.length := by omega
  rw [List.getElem?_eq_getElem this]
  rfl
section
variable {K : Fg} {P : Program} {w : World} {T : List (Addr × Str)} {H H' : Hp} {σ : L2.St} {te ta tb : TE}
theorem ev_h {x : Deed} (h : Ev T (ydd K) ta σ H x) (hb : Ev T yI tb σ H 0) : Ev T yI (tOp (rSub K P w) ta tb) σ H x.h := ev_DI (ev_suD h hb rfl)
theorem ev_n {x : Deed} (h : Ev T (ydd K) ta σ H x) (hb : Ev T yI tb σ H 1) : Ev T yI (tOp (rSub K P w) ta tb) σ H x.n := ev_DI (ev_suD h hb rfl)
theorem ev_seen {x : Deed} (h : Ev T (ydd K) ta σ H x) (hb : Ev T yI tb σ H 2) : Ev T (yk K) (tOp (rSub K P w) ta tb) σ H x.seen := ev_suD (d := tI x.seen) h hb rfl
theorem ev_act {x : Deed} (h : Ev T (ydd K) ta σ H x) (hb : Ev T yI tb σ H 3) : Ev T (yD K) (tOp (rSub K P w) ta tb) σ H x.act.d := ev_suD (d := x.act.d) h hb rfl
theorem ev_word {a : Act} (h : Ev T (yD K) ta σ H a.d) (hb : Ev T yI tb σ H 0) : Ev T yS (tOp (rSub K P w) ta tb) σ H a.word := by
  obtain ⟨ds, e, h0, _⟩ := act_0 a
  rw [e] at h
  exact ev_DS (ev_suD h hb h0)
theorem ev_blk {a : Act} (h : Ev T (yD K) ta σ H a.d) (hb : Ev T yI tb σ H 1) : Ev T (yk K) (tOp (rSub K P w) ta tb) σ H a.blk := by
  obtain ⟨ds, e, _, h1⟩ := act_0 a
  rw [e] at h
  exact ev_suD (d := tI a.blk) h hb h1
/-- == of texts -/
theorem ev_eqT {a b : Str} (ha : Ev T yS ta σ H a) (hb : Ev T yS tb σ H b) (h1 : okD (.text a) = true) (h2 : okD (.text b) = true) : Ev T yB (tOp (rEqK K) ta tb) σ H (decide (a = b)) :=
  ev_eq (ev_eqK (ev_SD ha) (ev_SD hb) h1 h2) (by
    by_cases e : a = b
    · rw [e]; simp
    · rw [decide_eq_false e]; exact decide_eq_false fun z => e (NestedKey.text.inj z))
theorem ev_neT {a b : Str} (ha : Ev T yS ta σ H a) (hb : Ev T yS tb σ H b) (h1 : okD (.text a) = true) (h2 : okD (.text b) = true) : Ev T yB (tOp (rNeK K) ta tb) σ H (!decide (a = b)) :=
  ev_eq (ev_neK (ev_SD ha) (ev_SD hb) h1 h2) (by
    by_cases e : a = b
    · rw [e]; simp
    · rw [decide_eq_false e]
      have : decide (NestedKey.text a = NestedKey.text b) = false := decide_eq_false fun z => e (NestedKey.text.inj z)
      rw [this])
theorem okN (i : Int) : okD (.num i) = true := rfl
theorem ev_eqI {i j : Int} (ha : Ev T yI ta σ H i) (hb : Ev T yI tb σ H j) : Ev T yB (tOp (rEqK K) ta tb) σ H (decide (i = j)) :=
  ev_eq (ev_eqK (ev_ID ha) (ev_ID hb) (okN i) (okN j)) (by
    by_cases e : i = j
    · rw [e]; simp
    · rw [decide_eq_false e]; exact decide_eq_false fun z => e (NestedKey.num.inj z))
theorem ev_neI {i j : Int} (ha : Ev T yI ta σ H i) (hb : Ev T yI tb σ H j) : Ev T yB (tOp (rNeK K) ta tb) σ H (!decide (i = j)) :=
  ev_eq (ev_neK (ev_ID ha) (ev_ID hb) (okN i) (okN j)) (by
    by_cases e : i = j
    · rw [e]; simp
    · rw [decide_eq_false e]
      have : decide (NestedKey.num i = NestedKey.num j) = false := decide_eq_false fun z => e (NestedKey.num.inj z)
      rw [this])
theorem ev_eqk {a b : List Int} (ha : Ev T (yk K) ta σ H a) (hb : Ev T (yk K) tb σ H b) : Ev T yB (tOp (rEqK K) ta tb) σ H (decide (a = b)) :=
  ev_eq (ev_eqK (ev_kD ha) (ev_kD hb) (tI_ok a) (tI_ok b)) (by
    by_cases e : a = b
    · rw [e]; simp
    · rw [decide_eq_false e]; exact decide_eq_false fun z => e (tI_inj z))
theorem ev_nek {a b : List Int} (ha : Ev T (yk K) ta σ H a) (hb : Ev T (yk K) tb σ H b) : Ev T yB (tOp (rNeK K) ta tb) σ H (!decide (a = b)) :=
  ev_eq (ev_neK (ev_kD ha) (ev_kD hb) (tI_ok a) (tI_ok b)) (by
    by_cases e : a = b
    · rw [e]; simp
    · rw [decide_eq_false e]
      have : decide (tI a = tI b) = false := decide_eq_false fun z => e (tI_inj z)
      rw [this])
end
end K20
namespace K20
open PySem PySem.Spec PyProof.Rows L2 RZ
/-! ### zip of a text and a tuple -/
section
variable {prog : Program} {w : World} {A : Around} {E : Value → Shared → Prop} {s : Shared}
theorem nx_sign {it : Addr} {x : Str} {t : Tok} {i c : Nat} {Q : Value → Shared → Prop} (hit : s.heap.IsStrIter it "str_ascii_iterator" x t i) (hx : x.cps[i]? = some c)
    (hQ : ∀ g, g.IsStrIter it "str_ascii_iterator" x t (i + 1) → Heap.SameBut it s.heap g → Q (.str ⟨#[c]⟩ s.toks) { s with heap := g, toks := s.toks + 1 }) : wpAny (model prog w) A (Builtin.SmallTypes.nextOf (.ref it)) Q E s := by
  obtain ⟨ob, hob, hcl, hdt⟩ := id hit
  unfold Builtin.SmallTypes.nextOf
  refine wpAny_bind (wpAny_callSpecial?_slot (name := Str.ofString "__next__") hit.typeIs F.slot_str_ascii_iterator_next (wpAny_call_entry F.slot_str_ascii_iterator_next hit.typeIs F.entry_str_ascii_iterator_next ?_ (F.args_str_ascii_iterator_next_1 _)))
  refine show wpAny _ _ (field (.ref it) 0 >>= _) _ _ _ from wpAny_bind (wpAny_field hob hdt (x := .str x t) rfl ?_)
  show wpAny _ _ (field (.ref it) 1 >>= _) _ _ _
  refine wpAny_bind (wpAny_field hob hdt (x := .int i 0) rfl ?_)
  simp only [hx, Int.toNat_natCast]
  refine wpAny_bind (wpAny_setField hob hdt (by simp) (wpAny_bind (wpAny_mkStr (wpAny_pure ⟨_, rfl, wpAny_pure (hQ _ ?_ (Heap.SameBut.update ..))⟩) (by show 1 ≤ sizeLine; decide))))
  exact ⟨_, Heap.get?_update_self _ hob (Obj.isFreed_of_fields (Obj.data_mapFields hdt _)), (Obj.cls_mapFields ..).trans hcl, by rw [Obj.data_mapFields hdt]; simp [rawInt]⟩
theorem nx_sign_end {it : Addr} {x : Str} {t : Tok} {i : Nat} {Q : Value → Shared → Prop} (hh : A.handled = none) (hit : s.heap.IsStrIter it "str_ascii_iterator" x t i) (hx : x.cps[i]? = none)
    (hE : ∀ g e, Heap.ExtBut it s.heap g → (∃ o, g.get? e = some o ∧ o.cls = .type "StopIteration") → E (.ref e) { s with heap := g }) : wpAny (model prog w) A (Builtin.SmallTypes.nextOf (.ref it)) Q E s := by
  obtain ⟨ob, hob, hcl, hdt⟩ := id hit
  unfold Builtin.SmallTypes.nextOf
  refine wpAny_bind (wpAny_callSpecial?_slot (name := Str.ofString "__next__") hit.typeIs F.slot_str_ascii_iterator_next (wpAny_call_entry F.slot_str_ascii_iterator_next hit.typeIs F.entry_str_ascii_iterator_next ?_ (F.args_str_ascii_iterator_next_1 _)))
  refine show wpAny _ _ (field (.ref it) 0 >>= _) _ _ _ from wpAny_bind (wpAny_field hob hdt (x := .str x t) rfl ?_)
  show wpAny _ _ (field (.ref it) 1 >>= _) _ _ _
  refine wpAny_bind (wpAny_field hob hdt (x := .int i 0) rfl ?_)
  simp only [hx, Int.toNat_natCast]
  refine wpAny_bind (wpAny_rule (wpAny_bind (wpAny_setField hob hdt (by simp) (wpAny_bind (wpAny_letGo ?_)))))
  show wpAny _ _ (newExc (.type "StopIteration") [] >>= _) _ _ _
  refine wpAny_bind ?_
  simp only [newTuple, newExc]
  refine wpAny_bind (wpAny_newObj_type ?_ (by size_fits))
  refine wpAny_bind (m := firstArgMember _ _) (wpAny_of_eq (a := Value.none) (by first | rfl | (simp only [firstArgMember]; rfl)) ?_)
  refine wpAny_newObj_type ?_ (by size_fits)
  simp only [raiseNew]
  refine wpAny_bind (wpAny_handled ?_)
  first | rw [hh] | rw [show A.in1.handled = none from hh]
  refine wpAny_bind (wpAny_pure (wpAny_throw ?_))
  exact hE _ _ (((Heap.SameBut.update ..).extBut.push _).push _) ⟨_, Heap.get?_push_size _ rfl, rfl⟩
/-- the next pair -/
theorem zs_item {z TI TO i1 i2 l : Addr} {k1 k2 : Nat} {tx : Str} {t : Tok} {ys : Array Value} {c : Nat} {y a b : Value} {Q : Option Value → Shared → Prop} (D : ZipApart z TI TO i1 i2 l l)
    (hz : IsZip s.heap z TI TO .none) (hTI : IsPair s.heap TI (.ref i1) (.ref i2)) (hTO : IsPair s.heap TO a b) (h1 : s.heap.IsStrIter i1 "str_ascii_iterator" tx t k1) (h2 : s.heap.IsTupleIter i2 l k2) (hl : s.heap.IsTuple l ys) (hx : tx.cps[k1]? = some c) (hy : ys[k2]? = some y)
    (hQ : ∀ g u, IsZip g z TI TO (rawInt s.heap.objs.size) → IsPair g TO (.str ⟨#[c]⟩ u) y → g.IsStrIter i1 "str_ascii_iterator" tx t (k1 + 1) → g.IsTupleIter i2 l (k2 + 1) → IsPair g s.heap.objs.size (.str ⟨#[c]⟩ u) y → g.objs.size = s.heap.objs.size + 1 →
      (∀ p o, p ≠ z → p ≠ TO → p ≠ i1 → p ≠ i2 → s.heap.get? p = some o → g.get? p = some o) → Q (some (.ref s.heap.objs.size)) { s with heap := g, toks := s.toks + 1 }) : wpAny (model prog w) A (pyNext (.ref z)) Q E s := by
  have hT : s.TypeIs (.ref z) "zip" := ⟨_, hz, rfl⟩
  unfold pyNext
  refine wpAny_bind (wpAny_attempt (wpAny_callSpecial?_slot (name := Str.ofString "__next__") hT F.slot_zip_next (wpAny_call_entry F.slot_zip_next hT F.entry_zip_next ?_ (F.args_zip_next_1 _))))
  show wpAny _ _ (field (.ref z) 2 >>= _) _ _ s
  refine wpAny_bind (wpAny_field hz rfl (x := .bool false) rfl ?_)
  show wpAny _ _ (field (.ref z) 3 >>= _) _ _ s
  refine wpAny_bind (wpAny_field hz rfl (x := .ref TI) rfl (wpAny_bind (wpAny_seqItems hTI rfl ?_)))
  show wpAny _ _ (Builtin.SmallTypes.ownedTupleIsFree (.ref z) >>= _) _ _ s
  refine wpAny_bind ?_
  (unfold Builtin.SmallTypes.ownedTupleIsFree; refine wpAny_bind (wpAny_field hz rfl (x := .none) rfl (wpAny_pure ?_)))
  simp only [if_true]
  refine wpAny_bind (wpAny_rule (wpAny_bind (wpAny_field hz rfl (x := .ref TO) rfl (wpAny_bind (wpAny_setField_rec hz (by simp) fun g1 z1 s1 => ?_)))))
  replace z1 : IsZip g1 z TI TO .ellipsis := z1
  refine wpAny_bind ?_
  simp only [List.zipIdx_nil, List.zipIdx_cons, List.forIn_nil, List.forIn_cons]
  refine wpAny_bind (wpAny_bind (wpAny_onRaise ?_))
  show wpAny _ _ (Builtin.SmallTypes.nextOf (.ref i1) >>= _) _ _ _
  refine wpAny_bind (nx_sign (h1.extBut s1.extBut D.i1z) hx fun g2 a2 s2 => wpAny_pure ?_)
  have o2 : IsPair g2 TO a b := s2.extBut _ _ D.TOi1 (s1.extBut _ _ D.TOz hTO)
  refine wpAny_bind (wpAny_seqItems o2 rfl (wpAny_bind (wpAny_updateSeq_pair o2 fun g3 o3 s3 => ?_)))
  replace o3 : IsPair g3 TO (.str ⟨#[c]⟩ s.toks) b := o3
  refine wpAny_bind (wpAny_letGo (wpAny_pure ?_))
  refine wpAny_bind (wpAny_bind (wpAny_onRaise ?_))
  show wpAny _ _ (Builtin.SmallTypes.nextOf (.ref i2) >>= _) _ _ _
  refine wpAny_bind (nextOf_tuple_item (((h2.extBut s1.extBut D.i2z).extBut s2.extBut D.i12.symm).extBut s3.extBut D.TOi2.symm) (((hl.extBut s1.extBut D.l2z).extBut s2.extBut D.l2i1).extBut s3.extBut D.l2TO) hy fun g4 a4 s4 => wpAny_pure ?_)
  have o4 : IsPair g4 TO (.str ⟨#[c]⟩ s.toks) b := s4.extBut _ _ D.TOi2 o3
  refine wpAny_bind (wpAny_seqItems o4 rfl (wpAny_bind (wpAny_updateSeq_pair o4 fun g5 o5 s5 => ?_)))
  replace o5 : IsPair g5 TO (.str ⟨#[c]⟩ s.toks) y := o5
  refine wpAny_bind (wpAny_letGo (wpAny_pure (wpAny_pure (wpAny_bind (wpAny_seqItems o5 rfl (wpAny_bind (wpAny_newTuple ?_)))))))
  have hsz : g5.objs.size = s.heap.objs.size := by rw [s5.1, s4.1, s3.1, s2.1, s1.1]
  have z5 : IsZip g5 z TI TO .ellipsis := s5.extBut _ _ D.TOz.symm (s4.extBut _ _ D.i2z.symm (s3.extBut _ _ D.TOz.symm (s2.extBut _ _ D.i1z.symm z1)))
  have k5 : ∀ p o, p ≠ z → p ≠ TO → p ≠ i1 → p ≠ i2 → s.heap.get? p = some o → g5.get? p = some o := fun p o n1 n2 n3 n4 e => s5.extBut _ _ n2 (s4.extBut _ _ n4 (s3.extBut _ _ n2 (s2.extBut _ _ n3 (s1.extBut _ _ n1 e))))
  have a5 : g5.IsStrIter i1 "str_ascii_iterator" tx t (k1 + 1) := ((a2.extBut s3.extBut D.TOi1.symm).extBut s4.extBut D.i12).extBut s5.extBut D.TOi1.symm
  have b5 : g5.IsTupleIter i2 l (k2 + 1) := a4.extBut s5.extBut D.TOi2.symm
  have lz : z < g5.objs.size := Heap.lt_size z5
  show wpAny _ _ (Builtin.SmallTypes.ownedTupleHandOut (.ref z) (.ref g5.objs.size) >>= _) _ _ _
  refine wpAny_bind ?_
  (unfold Builtin.SmallTypes.ownedTupleHandOut; skip)
  have z6 : IsZip (g5.push { cls := .type "tuple", data := .seq #[.str ⟨#[c]⟩ s.toks, y] }) z TI TO .ellipsis := Heap.get?_push_of_some _ z5
  refine wpAny_bind (wpAny_setField_rec z6 (by simp) fun g7 z7 s7 => ?_)
  replace z7 : IsZip g7 z TI TO (rawInt g5.objs.size) := z7
  refine wpAny_setField_rec z7 (by simp) fun g8 z8 s8 => ?_
  replace z8 : IsZip g8 z TI TO (rawInt g5.objs.size) := z8
  have up : ∀ p o, p ≠ z → g5.get? p = some o → g8.get? p = some o := fun p o n e => s8.extBut _ _ n (s7.extBut _ _ n (Heap.get?_push_of_some _ e))
  have T8 : IsPair g8 g5.objs.size (.str ⟨#[c]⟩ s.toks) y := s8.extBut _ _ (Nat.ne_of_gt lz) (s7.extBut _ _ (Nat.ne_of_gt lz) (Heap.get?_push_size _ rfl))
  have n8 : g8.objs.size = g5.objs.size + 1 := by rw [s8.1, s7.1, Heap.size_push]
  rw [hsz] at z8 T8 n8
  refine wpAny_pure ⟨_, rfl, wpAny_pure ?_⟩
  show Q (some (.ref g5.objs.size)) _
  rw [hsz]
  have up1 : ∀ o, g5.get? i1 = some o → g8.get? i1 = some o := fun o e => up _ o D.i1z e
  refine hQ g8 _ z8 (up _ _ D.TOz o5) ?_ (b5.at fun o e => up _ o D.i2z e) T8 n8 fun p o n1 n2 n3 n4 e => up p o n1 (k5 p o n1 n2 n3 n4 e)
  obtain ⟨oi, e1, e2, e3⟩ := a5
  exact ⟨oi, up1 _ e1, e2, e3⟩
theorem zs_end {z TI TO i1 i2 l : Addr} {k1 : Nat} {tx : Str} {t : Tok} {Q : Option Value → Shared → Prop} (hh : A.handled = none) (D : ZipApart z TI TO i1 i2 l l)
    (hz : IsZip s.heap z TI TO .none) (hTI : IsPair s.heap TI (.ref i1) (.ref i2)) (h1 : s.heap.IsStrIter i1 "str_ascii_iterator" tx t k1) (hx : tx.cps[k1]? = none)
    (hQ : ∀ g, (∀ p o, p ≠ z → p ≠ TO → p ≠ i1 → p ≠ i2 → s.heap.get? p = some o → g.get? p = some o) → Q none { s with heap := g }) : wpAny (model prog w) A (pyNext (.ref z)) Q E s := by
  have hT : s.TypeIs (.ref z) "zip" := ⟨_, hz, rfl⟩
  unfold pyNext
  refine wpAny_bind (wpAny_attempt (wpAny_callSpecial?_slot (name := Str.ofString "__next__") hT F.slot_zip_next (wpAny_call_entry F.slot_zip_next hT F.entry_zip_next ?_ (F.args_zip_next_1 _))))
  show wpAny _ _ (field (.ref z) 2 >>= _) _ _ s
  refine wpAny_bind (wpAny_field hz rfl (x := .bool false) rfl ?_)
  show wpAny _ _ (field (.ref z) 3 >>= _) _ _ s
  refine wpAny_bind (wpAny_field hz rfl (x := .ref TI) rfl (wpAny_bind (wpAny_seqItems hTI rfl ?_)))
  show wpAny _ _ (Builtin.SmallTypes.ownedTupleIsFree (.ref z) >>= _) _ _ s
  refine wpAny_bind ?_
  (unfold Builtin.SmallTypes.ownedTupleIsFree; refine wpAny_bind (wpAny_field hz rfl (x := .none) rfl (wpAny_pure ?_)))
  simp only [if_true]
  refine wpAny_bind (wpAny_rule (wpAny_bind (wpAny_field hz rfl (x := .ref TO) rfl (wpAny_bind (wpAny_setField_rec hz (by simp) fun g1 z1 s1 => ?_)))))
  replace z1 : IsZip g1 z TI TO .ellipsis := z1
  refine wpAny_bind ?_
  simp only [List.zipIdx_nil, List.zipIdx_cons, List.forIn_nil, List.forIn_cons]
  refine wpAny_bind (wpAny_bind (wpAny_onRaise ?_))
  show wpAny _ _ (Builtin.SmallTypes.nextOf (.ref i1) >>= _) _ _ _
  refine wpAny_bind (nx_sign_end hh (h1.extBut s1.extBut D.i1z) hx fun g2 e s2 he => ?_)
  obtain ⟨oe, hoe, hce⟩ := he
  have z2 : IsZip g2 z TI TO .ellipsis := s2 _ _ D.i1z.symm z1
  have hez : e ≠ z := fun q => by
    rw [q, z2] at hoe
    cases hoe
    simp at hce
  refine wpAny_setField_rec z2 (by simp) fun g3 _ s3 => ?_
  refine wpAny_bind (wpAny_isInstance (T := "StopIteration") (b := true) ⟨oe, s3.extBut _ _ hez hoe, hce⟩ isSubtype_stop ?_)
  exact wpAny_pure (hQ _ fun p o n1 _ n3 _ q => s3.extBut _ _ n1 (s2 _ _ n3 (s1.extBut _ _ n1 q)))
abbrev zsH1 (h : Heap) (x : Str) (t : Tok) : Heap := h.push { cls := .type "str_ascii_iterator", data := .fields #[.str x t, .int 0 0] }
abbrev zsH2 (h : Heap) (x : Str) (t : Tok) (l : Addr) : Heap := (zsH1 h x t).push { cls := .type "tuple_iterator", data := .fields #[.ref l, .int 0 0] }
abbrev zsH3 (h : Heap) (x : Str) (t : Tok) (l : Addr) : Heap := (zsH2 h x t l).push { cls := .type "tuple", data := .seq #[.ref h.objs.size, .ref (zsH1 h x t).objs.size] }
abbrev zsH4 (h : Heap) (x : Str) (t : Tok) (l : Addr) : Heap := (zsH3 h x t l).push { cls := .type "tuple", data := .seq #[.none, .none] }
abbrev zsH5 (h : Heap) (x : Str) (t : Tok) (l : Addr) : Heap := (zsH4 h x t l).push { cls := .type "zip", data := .fields #[.none, .bool false, .bool false, .ref (zsH2 h x t l).objs.size, .ref (zsH3 h x t l).objs.size] }
theorem zs_new (x : Str) (t : Tok) (l : Addr) (ys : Array Value) (ha : x.cps.all (· < 128) = true) :
    Meets (Builtin.«zip.__new__» ⟨[.type "zip", .str x t, .ref l], []⟩) (fun _ R s => s.heap.IsTuple l ys ∧ R (.ok (.ret (.ref (zsH4 s.heap x t l).objs.size))) { s with heap := zsH5 s.heap x t l }) :=
  .of_wp fun prog w A R s h => by
    obtain ⟨hp, g, d, tk, os⟩ := s; obtain ⟨hl, h⟩ := h
    have hsub := sub_zip
    have hL2 : Heap.IsTuple (Shared.heap ⟨hp.push { cls := .type "str_ascii_iterator", data := .fields #[.str x t, .int 0 0] }, g, d, tk, os⟩) l ys := Heap.IsTuple.push hl _
    wp_walk using wpAny_pyIter_ascii ha, wpAny_pyIter_tuple hL2
    exact ⟨_, rfl, h⟩
theorem call_zipST {x : Str} {t : Tok} {l : Addr} {ys : Array Value} {Q : Value → Shared → Prop} (ha : x.cps.all (· < 128) = true) (hl : s.heap.IsTuple l ys)
    (h : ∀ g, IsZip g (s.heap.objs.size + 4) (s.heap.objs.size + 2) (s.heap.objs.size + 3) .none → IsPair g (s.heap.objs.size + 2) (.ref s.heap.objs.size) (.ref (s.heap.objs.size + 1)) → IsPair g (s.heap.objs.size + 3) .none .none →
      g.IsStrIter s.heap.objs.size "str_ascii_iterator" x t 0 → g.IsTupleIter (s.heap.objs.size + 1) l 0 → (∀ p o, s.heap.get? p = some o → g.get? p = some o) → Q (.ref (s.heap.objs.size + 4)) { s with heap := g }) :
    wpAny (model prog w) A (call (.type "zip") [.str x t, .ref l]) Q E s := by
  refine callType_new F.called_zip (by decide) (F.typeCall_zip_2 _ _) (F.newCall_zip_2 _ _) (fun ob => F.args_object_init_3 ob _ _) F.entry_zip_new (zs_new x t l ys ha) ⟨hl, ?_⟩
  have z1 : (zsH1 s.heap x t).objs.size = s.heap.objs.size + 1 := Heap.size_push ..
  have z2 : (zsH2 s.heap x t l).objs.size = s.heap.objs.size + 2 := by rw [Heap.size_push, z1]
  have z3 : (zsH3 s.heap x t l).objs.size = s.heap.objs.size + 3 := by rw [Heap.size_push, z2]
  have z4 : (zsH4 s.heap x t l).objs.size = s.heap.objs.size + 4 := by rw [Heap.size_push, z3]
  have g5 : (zsH5 s.heap x t l).get? (zsH4 s.heap x t l).objs.size = some _ := Heap.get?_push_size _ rfl
  have g4 : (zsH5 s.heap x t l).get? (zsH3 s.heap x t l).objs.size = some _ := Heap.get?_push_of_some _ (Heap.get?_push_size _ rfl)
  have g3 : (zsH5 s.heap x t l).get? (zsH2 s.heap x t l).objs.size = some _ := Heap.get?_push_of_some _ (Heap.get?_push_of_some _ (Heap.get?_push_size _ rfl))
  have g2 : (zsH5 s.heap x t l).get? (zsH1 s.heap x t).objs.size = some _ := Heap.get?_push_of_some _ (Heap.get?_push_of_some _ (Heap.get?_push_of_some _ (Heap.get?_push_size _ rfl)))
  have g1 : (zsH5 s.heap x t l).get? s.heap.objs.size = some _ := Heap.get?_push_of_some _ (Heap.get?_push_of_some _ (Heap.get?_push_of_some _ (Heap.get?_push_of_some _ (Heap.get?_push_size _ rfl))))
  show _ ∧ _
  rw [z2, z3, z4] at g5
  rw [z1, z2] at g3
  rw [z3] at g4
  rw [z1] at g2
  rw [z4]
  exact ⟨⟨_, g5, rfl⟩, h _ g5 g3 g4 ⟨_, g1, rfl, rfl⟩ ⟨_, g2, rfl, rfl⟩ fun p o q => Heap.get?_push_of_some _ (Heap.get?_push_of_some _ (Heap.get?_push_of_some _ (Heap.get?_push_of_some _ (Heap.get?_push_of_some _ q))))⟩
end
def ItzS (K : Fg) (z : Str) (b : Addr) : It :=
  ⟨fun i H => ∃ ys c y, SqT K H b ys ∧ z.cps[i]? = some c ∧ ys[i]? = some y, fun i H v H' => ∃ T c y, v = .ref T ∧ H T = none ∧ H' = upd H T (.tup [.str ⟨#[c]⟩, y]) ∧ z.cps[i]? = some c ∧ ∀ ys, SqT K H b ys → ys[i]? = some y, fun i H => z.cps[i]? = none⟩
theorem turn_zipS {P : Program} {w : World} {K : Fg} {elts : List Expr} {kk : Nat} {tpos : Pos} {x : Str} {t : Tok} {b z TI TO i1 i2 : Addr} (D : ZipApart z TI TO i1 i2 b b) :
    Turn P w K (.Tuple elts kk tpos) (ItzS K x b) [z, TI, TO, i1, i2] z (fun i h => IsZip h z TI TO .none ∧ IsPair h TI (.ref i1) (.ref i2) ∧ (∃ p q, IsPair h TO p q) ∧ h.IsStrIter i1 "str_ascii_iterator" x t i ∧ h.IsTupleIter i2 b i) where
  mem := by simp
  obj := fun i h st c hc => by
    obtain ⟨hz, hTI, ⟨p, q, hTO⟩, ⟨o1, e1, _, d1⟩, ⟨o2, e2, _, d2⟩⟩ := st
    have five : c = z ∨ c = TI ∨ c = TO ∨ c = i1 ∨ c = i2 := by simpa using hc
    rcases five with r | r | r | r | r
    · rw [r]; exact ⟨_, hz, fun v r => nomatch r⟩
    · rw [r]; exact ⟨_, hTI, fun v r => nomatch r⟩
    · rw [r]; exact ⟨_, hTO, fun v r => nomatch r⟩
    · rw [r]; exact ⟨o1, e1, fun v r => by rw [d1] at r; cases r⟩
    · rw [r]; exact ⟨o2, e2, fun v r => by rw [d2] at r; cases r⟩
  keep := fun i h h' st k => by
    obtain ⟨hz, hTI, ⟨p, q, hTO⟩, ⟨o1, e1, f1, d1⟩, h2⟩ := st
    exact ⟨k z (by simp) _ hz, k TI (by simp) _ hTI, ⟨p, q, k TO (by simp) _ hTO⟩, ⟨o1, k i1 (by simp) _ e1, f1, d1⟩, h2.at fun o r => k i2 (by simp) o r⟩
  item := by
    intro X hP hw hK hc i pins s σ H E I hf st hg
    subst hP hw hK
    obtain ⟨hz, hTI, ⟨p0, q0, hTO⟩, h1, h2⟩ := st
    obtain ⟨ys, c, y, hqy, hx, hy⟩ := hg
    obtain ⟨its, rv, p, _⟩ := I.tuple hqy
    obtain ⟨u, hu, ru⟩ := rv.get hy
    have zlt : z < s.heap.objs.size := Heap.lt_size hz
    refine zs_item D hz hTI hTO h1 h2 p hx (y := u) (by simpa using hu) fun g tk z' TO' h1' h2' hT hsz hk => ?_
    refine ⟨_, rfl, wpAny_letOwnedTupleGo_zip (s := { s with heap := g, toks := s.toks + 1 }) z' fun g' z'' sb => ?_⟩
    have hT2 : g'.get? s.heap.objs.size = some { cls := .type "tuple", data := .seq #[.str ⟨#[c]⟩ tk, u] } := (sb.2 _ (Nat.ne_of_gt zlt)).trans hT
    have new : ObjOk X.prog X.w (upd H s.heap.objs.size (.tup [.str ⟨#[c]⟩, y])) g' s.heap.objs.size (.tup [.str ⟨#[c]⟩, y]) :=
      ⟨by show 2 ≤ sizeLine; decide, [.str ⟨#[c]⟩ tk, u], .cons ⟨tk, rfl⟩ (.cons ru .nil), ⟨_, hT2, rfl, _, rfl⟩⟩
    have I1 : Inv X pins σ (upd H s.heap.objs.size (.tup [.str ⟨#[c]⟩, y])) { s with heap := g', toks := s.toks + 1 } :=
      I.turnedNew (t' := s.toks + 1) (ch := [z, TI, TO, i1, i2]) (fun d o hb q => (sb.2 d (fun q' => hb (by simp [q']))).trans (hk d o (fun q' => hb (by simp [q'])) (fun q' => hb (by simp [q'])) (fun q' => hb (by simp [q'])) (fun q' => hb (by simp [q'])) q)) hf (Nat.le_refl _) new
    have s1' : g'.IsStrIter i1 "str_ascii_iterator" x t (i + 1) := by
      obtain ⟨oi, e1, e2, e3⟩ := h1'
      exact ⟨oi, (sb.2 _ D.i1z).trans e1, e2, e3⟩
    refine ⟨.ref s.heap.objs.size, _, I1, rfl, ⟨_, c, y, rfl, I.hok.fresh (Nat.le_refl _), rfl, hx, fun l hl => by rw [I.tuple_inj hl hqy]; exact hy⟩, ⟨z'', ?_, ⟨.str ⟨#[c]⟩ tk, u, ?_⟩, s1', ?_⟩, fun d hcm => ?_⟩
    · refine (sb.2 _ D.TIz).trans ?_
      exact hk _ _ D.TIz D.TITO D.TIi1 D.TIi2 hTI
    · refine (sb.2 _ D.TOz).trans ?_
      exact TO'
    · exact h2'.at fun ob w1 => (sb.2 _ D.i2z).trans w1
    · have hlt : d < s.heap.objs.size := by
        have e' : d = z ∨ d = TI ∨ d = TO ∨ d = i1 ∨ d = i2 := by simpa using hcm
        obtain ⟨_, e1, _⟩ := h1
        obtain ⟨_, e2, _⟩ := h2
        rcases e' with r | r | r | r | r
        · rw [r]; exact zlt
        · rw [r]; exact Heap.lt_size hTI
        · rw [r]; exact Heap.lt_size hTO
        · rw [r]; exact Heap.lt_size e1
        · rw [r]; exact Heap.lt_size e2
      have apart : d ≠ s.heap.objs.size := Nat.ne_of_lt hlt
      rw [upd_ne apart]
      exact (hf d hcm).1
  done := by
    intro X hP hw hK hc i pins s σ H E I hf st hg
    subst hP hw hK
    obtain ⟨hz, hTI, _, h1, _⟩ := st
    exact zs_end (TO := TO) (i2 := i2) (I.ok.hd hc) D hz hTI h1 hg fun g hk => ⟨rfl, I.turnedL (t' := s.toks) (ch := [z, TI, TO, i1, i2]) (fun d o hb q => hk d o (fun q' => hb (by simp [q'])) (fun q' => hb (by simp [q'])) (fun q' => hb (by simp [q'])) (fun q' => hb (by simp [q'])) q) hf⟩
  self := fun _ _ _ _ _ st go => wpAny_pyIter_zip st.1 go
def iZipS (K : Fg) (ta : TA) : TI := fun σ H R => ta σ H fun vs H1 => ∃ z b ys, vs = [.str z, .ref b] ∧ z.cps.all (· < 128) = true ∧ SqT K H1 b ys ∧ R (ItzS K z b) H1
theorem pi_zipS {X : Cx} {e e2 : Expr} {ta : TA} {p pos tpos : Pos} {elts : List Expr} {kk : Nat} (hg : Gl X "zip") (hm : X.mg "zip" = none) (ha : PA X [e, e2] ta)
    (hs : starEach [e, e2] X.env = (false, eval e X.env) :: starEach [e2] X.env := by rfl) (hpl : (backTo pos (starEach [e2] X.env)).any (·.1) = false := by rfl) : PI X (.Tuple elts kk tpos) (.Call (.Name "zip" p) [e, e2] [] pos) (iZipS X.K ta) := by
  refine ⟨fun pins s σ H R I h => Call_ (ld_blt I hg hm PyProof.Rows.boot_zip (PyProof.Rows.callWith_type1 (thn (ha.run pos pins s σ H _ I h) fun us s1 ⟨vs, H1, I1, r1, q1⟩ => ?_) hs hpl))⟩
  obtain ⟨z, b, ys, ex, hz, hb, q1⟩ := q1
  subst ex
  cases r1 with
  | cons r rr =>
    cases rr with
    | cons r' rr =>
      cases rr
      cases r'
      obtain ⟨t, rfl⟩ := r
      obtain ⟨its, rv, p1, _⟩ := I1.tuple hb
      obtain ⟨o1, ho1, _⟩ := id p1
      refine call_zipST hz (show s1.heap.IsTuple b its.toArray from p1) fun g hz hTI hTO h1 h2 hk => wpAny_pyIter_zip hz ?_
      have I2 : Inv X pins σ H1 { s1 with heap := g } := I1.kept (t' := s1.toks) hk
      refine ⟨s1.heap.objs.size + 4, [s1.heap.objs.size + 4, s1.heap.objs.size + 2, s1.heap.objs.size + 3, s1.heap.objs.size, s1.heap.objs.size + 1], _, _, H1, rfl, I2, turn_zipS (PySem.W.ktu_apart s1.heap.objs.size b b (Heap.lt_size ho1) (Heap.lt_size ho1)), ⟨hz, hTI, ⟨_, _, hTO⟩, h1, h2⟩, fun c hc => ?_, q1⟩
      have above : s1.heap.objs.size ≤ c := by
        have e' : c = s1.heap.objs.size + 4 ∨ c = s1.heap.objs.size + 2 ∨ c = s1.heap.objs.size + 3 ∨ c = s1.heap.objs.size ∨ c = s1.heap.objs.size + 1 := by simpa using hc
        have q : ∀ k, s1.heap.objs.size ≤ s1.heap.objs.size + k := fun k => Nat.le_add_right _ _
        rcases e' with r | r | r | r | r
        · rw [r]; exact q 4
        · rw [r]; exact q 2
        · rw [r]; exact q 3
        · rw [r]; exact q 0
        · rw [r]; exact q 1
      exact I1.fpOk above (I1.hok.fresh above)
/-- its walk: signs and items -/
theorem evi_zipS {K : Fg} {T : List (Addr × Str)} {H : Hp} {σ : L2.St} {ta tb : TE} {γ : Type} {Z : Hp → V → γ → Prop} [Mono T Z] {z : Str} {bs : List γ} (h1 : Ev T yS ta σ H z) (h2 : Ev T (yT K Z) tb σ H bs) (hz : z.cps.all (· < 128) = true) (hl : z.cps.size = bs.length) :
    EvI T (yP K yS Z) (iZipS K (tCons ta (tCons tb tNil))) σ H ((z.cps.toList.map sign).zip bs) := fun H1 r1 Rk k =>
  h1 H1 r1 _ fun v H2 r2 e1 => h2 H2 (r1.trans r2) _ fun u H3 r3 ⟨b, us, e2, s2, l2⟩ => by
    subst e2
    have hlen : ((z.cps.toList.map sign).zip bs).length = z.cps.size := by
      rw [List.length_zip, List.length_map, Array.length_toList]
      omega
    refine ⟨z, b, us, by rw [show v = V.str z from e1], hz, s2, k _ H3 (r2.trans r3) ?_⟩
    rw [hlen]
    refine ⟨fun i H4 hi r4 => ?_, fun H4 r4 => Array.getElem?_eq_none (Nat.le_refl _), fun i H4 x H5 hi r4 y => ?_⟩
    · have hu : i < us.length := by rw [l2.length]; omega
      exact ⟨us, z.cps[i], us[i], r4.tup s2, by simp [hi], by simp [hu]⟩
    · obtain ⟨t, c, y, ex, ht, e5, hc, hy⟩ := y
      subst ex e5
      obtain ⟨b2, g2, y2⟩ := paired_get l2 (hy us (r4.tup s2))
      have r5 : Rp T H4 (upd H4 t (.tup [.str ⟨#[c]⟩, y])) := Rp.new ht
      refine ⟨r5, (sign c, b2), zip_get ?_ g2, t, _, _, rfl, SqT.of upd_same, rfl, Mono.mono (r4.trans r5) y2⟩
      rw [List.getElem?_map, Array.getElem?_toList, hc]
      rfl
end K20
namespace K20
open PySem PySem.Spec PyProof.Rows L2
section
variable {K : Fg} {P : Program} {w : World} {T : List (Addr × Str)} {H H' : Hp} {σ : L2.St} {te ta tb tl : TE} {tt : TT} {wi : TI} {β γ δ : Type} {Y : Hp → V → β → Prop} {Z : Hp → V → γ → Prop} {g : TG} {u : TS} {D : Ends}
/-! ### loops that change things: what is walked stays -/
/-- for x in a tuple -/
theorem s_forT [my : Imm Y] {bs : List β} (h : Ev T (yT K Y) tl σ H bs)
    (k : ∀ H2, Rp T H H2 → ∃ Pv : Nat → L2.St → Hp → Prop, Pv 0 σ H2 ∧ (∀ i σ' H', Pv i σ' H' → Tk H2 H') ∧ (∀ i b σ' H' x, bs[i]? = some b → Pv i σ' H' → Y H' x b → g x σ' H' fun σ3 H3 => u { D with nx := Pv (i + 1), ct := Pv (i + 1), bk := D.nx } σ3 H3) ∧ ∀ σ' H', Pv bs.length σ' H' → D.nx σ' H') :
    tFor (iTup K tl) g u D σ H := h H (Rp.refl _) _ fun v H2 r2 ⟨a, vs, e, ha, l⟩ => by
  obtain ⟨Pv, p0, pk, ps, pe⟩ := k H2 r2
  subst e
  refine ⟨a, rfl, ⟨vs, ha⟩, ?_⟩
  refine for_it (walk_tup (K := K) (a := a) (xs := vs)) Pv p0 (fun i σ' H' _ p => pk i σ' H' p K a vs ha) (fun i x σ' H3 H4 hi p ⟨e1, e2⟩ => ?_) (fun σ' H' p => pe σ' H' (by rw [← l.length]; exact p))
  subst e1
  obtain ⟨b, hb, yb⟩ := paired_get l e2
  exact ps i b σ' H4 x hb p (my.imm (pk i σ' H4 p) yb)
/-- for x in a list -/
theorem s_forL [my : Imm Y] {bs : List β} (h : Ev T (yL Y) tl σ H bs)
    (k : ∀ H2 a vs, Rp T H H2 → H2 a = some (.lst vs) → ∃ Pv : Nat → L2.St → Hp → Prop, Pv 0 σ H2 ∧ (∀ i σ' H', Pv i σ' H' → Tk H2 H' ∧ H' a = some (.lst vs)) ∧ (∀ i b σ' H' x, bs[i]? = some b → Pv i σ' H' → Y H' x b → g x σ' H' fun σ3 H3 => u { D with nx := Pv (i + 1), ct := Pv (i + 1), bk := D.nx } σ3 H3) ∧ ∀ σ' H', Pv bs.length σ' H' → D.nx σ' H') :
    tFor (iList K tl) g u D σ H := h H (Rp.refl _) _ fun v H2 r2 ⟨a, vs, e, ha, l⟩ => by
  obtain ⟨Pv, p0, pk, ps, pe⟩ := k H2 a vs r2 ha
  subst e
  refine ⟨a, rfl, ⟨vs, SqL.of ha⟩, ?_⟩
  refine for_it (walk_list (K := K) (a := a) (xs := vs)) Pv p0 (fun i σ' H' _ p => SqL.of (pk i σ' H' p).2) (fun i x σ' H3 H4 hi p ⟨e1, e2⟩ => ?_) (fun σ' H' p => pe σ' H' (by rw [← l.length]; exact p))
  subst e1
  obtain ⟨b, hb, yb⟩ := paired_get l e2
  exact ps i b σ' H4 x hb p (my.imm (pk i σ' H4 p).1 yb)
/-- for i in range(n), range(m, n) -/
theorem s_forR {t : TA} {n : Int} (h : EvA T t σ H fun vs _ => vs = [.int n]) (h1 : -(2 ^ 62) ≤ n) (h2 : n < 2 ^ 62)
    (k : ∀ H2, Rp T H H2 → ∃ Pv : Nat → L2.St → Hp → Prop, Pv 0 σ H2 ∧ (∀ i σ' H', i < n.toNat → Pv i σ' H' → g (.int (i : Int)) σ' H' fun σ3 H3 => u { D with nx := Pv (i + 1), ct := Pv (i + 1), bk := D.nx } σ3 H3) ∧ ∀ σ' H', Pv n.toNat σ' H' → D.nx σ' H') :
    tFor (iRng1 t) g u D σ H := h H (Rp.refl _) _ fun vs H2 r2 e => by
  obtain ⟨Pv, p0, ps, pe⟩ := k H2 r2
  refine ⟨n, e, h1, h2, ?_⟩
  refine for_it (walk_range (lo := 0) (n := n.toNat)) Pv p0 (fun _ _ _ _ _ => trivial) (fun i x σ' H3 H4 hi p ⟨e1, e2⟩ => ?_) pe
  subst e1
  have z : x = .int (i : Int) := by rw [e2]; show V.int ((0 : Int) + (i : Int)) = _; rw [Int.zero_add]
  rw [z]
  exact ps i σ' H4 hi p
theorem s_forR2 {t : TA} {m n : Int} (h : EvA T t σ H fun vs _ => vs = [.int m, .int n]) (h1 : -(2 ^ 62) ≤ m ∧ m < 2 ^ 62 ∧ -(2 ^ 62) ≤ n ∧ n < 2 ^ 62)
    (k : ∀ H2, Rp T H H2 → ∃ Pv : Nat → L2.St → Hp → Prop, Pv 0 σ H2 ∧ (∀ i σ' H', i < (n - m).toNat → Pv i σ' H' → g (.int (m + (i : Int))) σ' H' fun σ3 H3 => u { D with nx := Pv (i + 1), ct := Pv (i + 1), bk := D.nx } σ3 H3) ∧ ∀ σ' H', Pv (n - m).toNat σ' H' → D.nx σ' H') :
    tFor (iRng2 t) g u D σ H := h H (Rp.refl _) _ fun vs H2 r2 e => by
  obtain ⟨Pv, p0, ps, pe⟩ := k H2 r2
  refine ⟨m, n, e, h1, ?_⟩
  refine for_it (walk_range (lo := m) (n := (n - m).toNat)) Pv p0 (fun _ _ _ _ _ => trivial) (fun i x σ' H3 H4 hi p ⟨e1, e2⟩ => ?_) pe
  subst e1
  rw [e2]
  exact ps i σ' H4 hi p
/-! ### lists that grow -/
/-- o.append(e) -/
theorem s_append [my : Mono T Y] {to : TE} {l : Addr} {xs : List V} {b : β} (ho : Ev T yV to σ H (.ref l)) (h : Ev T Y te σ H b) (hl : H l = some (.lst xs)) (hz : xs.length < sizeLine) (k : ∀ v H1, Rp T H H1 → Y H1 v b → D.nx σ (upd H1 l (.lst (xs ++ [v])))) :
    tDrop (tBM K "list" rAppend to (tCons te tNil)) D σ H := ho H (Rp.refl _) _ fun x H1 r1 ex => by
  obtain rfl : x = V.ref l := ex
  exact ⟨.inl ⟨rfl, _, SqL.of (r1.lst hl)⟩, h H1 r1 _ fun v H2 r2 y => ⟨l, xs, v, rfl, rfl, (r1.trans r2).lst hl, hz, k v H2 (r1.trans r2) y⟩⟩
/-- o.extend(e), e a new list -/
theorem s_extend {to : TE} {l : Addr} {xs : List V} {bs : List β} (ho : Ev T yV to σ H (.ref l)) (h : Ev T (yL Y) te σ H bs) (hl : H l = some (.lst xs)) (hz : xs.length + bs.length ≤ sizeLine) (k : ∀ vs H1, Rp T H H1 → Paired (Y H1) vs bs → D.nx σ (upd H1 l (.lst (xs ++ vs)))) :
    tDrop (tBM K "list" rExtend to (tCons te tNil)) D σ H := ho H (Rp.refl _) _ fun x H1 r1 ex => by
  obtain rfl : x = V.ref l := ex
  exact ⟨.inl ⟨rfl, _, SqL.of (r1.lst hl)⟩, h H1 r1 _ fun v H2 r2 ⟨a, vs, e, ha, p⟩ => ⟨l, a, xs, vs, rfl, by rw [e], (r1.trans r2).lst hl, ha, by rw [p.length]; exact hz, k vs H2 (r1.trans r2) p⟩⟩
/-- max of a list of ints -/
theorem ev_maxL {ns : List Int} (h : Ev T (yL yI) te σ H ns) (hn : 0 < ns.length) : ∀ H1, Rp T H H1 → ∀ Q : VK, (∀ m H2, Rp T H1 H2 → m ∈ ns → (∀ i ∈ ns, i ≤ m) → Q (.int m) H2) → tCB (rMax K) (tCons te tNil) σ H1 Q := fun H1 r1 Q q => h H1 r1 _ fun v H2 r2 ⟨a, vs, e, ha, l⟩ =>
  ⟨a, ns, by rw [e], SqL.of (by rw [ha, int_map l]), hn, fun m h1 h2 => q m H2 r2 h1 h2⟩
/-- sum of a list, a tuple of ints -/
def rSumU (K : Fg) : List V → Hp → VK → Prop := fun xs H Q => ∃ (a : Addr) (ns : List Int), xs = [.ref a] ∧ (SqL K H a (ns.map V.int) ∨ SqT K H a (ns.map V.int)) ∧ Q (.int ns.sum) H
theorem cr_sumU {X : Cx} (hc : X.calm = true) : CallR X (.builtin "sum") (rSumU X.K) := by
  intro pins s σ H xs us Q I r h
  obtain ⟨a, ns, ex, hs, q⟩ := h
  rcases hs with hs | hs
  · exact cr_sum hc pins s σ H xs us Q I r ⟨a, ns, ex, hs, q⟩
  · subst ex
    obtain rfl := Vals.ref1 r
    obtain ⟨its, rv, pl, lz⟩ := I.tuple hs
    have hi := rv.ints
    obtain ⟨ys, e⟩ := hi.allInts.items
    have hn : numsOf (intItems ys).toList = ns := by rw [← e]; exact hi.numsOf
    rw [nums_intItems] at hn
    rw [e] at pl
    refine PySem.W.ktm_sumG (I.ok.hd hc) pl fun h' tk t' hk => ?_
    rw [preSum_eq, List.take_of_length_le (by simp)]
    rw [hn]
    exact ⟨.int _, H, I.kept hk, ⟨_, rfl⟩, q⟩
theorem ev_sumk {ns : List Int} (h : Ev T (yk K) te σ H ns) : Ev T yI (tCB (rSumU K) (tCons te tNil)) σ H ns.sum := fun H1 r1 Q q => h H1 r1 _ fun v H2 r2 y => by
  obtain ⟨a, e, s⟩ := yk_inv y
  exact ⟨a, ns, by rw [e], .inr s, q _ H2 r2 rfl⟩
/-! ### statements, the rest behind them -/
variable {v t : TS} {a : β} {c : Bool} {tt : TT}
theorem q_set {i : Nat} {u : TS} (h : Ev T Y te σ H a) (k : ∀ v H1, Rp T H H1 → Y H1 v a → u D (σ.set i (some v)) H1) : tSeq (tAsg te (gName i)) u D σ H := h H (Rp.refl _) _ fun v H1 r1 y => k v H1 r1 y
theorem q_ifs {u : TS} (h : EvT T tt σ H c) (h1 : c = true → ∀ H1, Rp T H H1 → tSeq t u D σ H1) (h2 : c = false → ∀ H1, Rp T H H1 → u D σ H1) : tSeq (tIfS tt t tNext) u D σ H := h H (Rp.refl _) _ fun H1 r1 => by
  cases c with
  | true => exact iteT (h1 rfl H1 r1)
  | false => exact iteF (h2 rfl H1 r1)
theorem q_if (h : EvT T tt σ H c) (h1 : c = true → ∀ H1, Rp T H H1 → t D σ H1) (h2 : c = false → ∀ H1, Rp T H H1 → v D σ H1) : tIfS tt t v D σ H := h H (Rp.refl _) _ fun H1 r1 => by
  cases c with
  | true => exact iteT (h1 rfl H1 r1)
  | false => exact iteF (h2 rfl H1 r1)
theorem q_next (h : D.nx σ H) : tNext D σ H := h
/-! ### new lists: they may be changed -/
def yLN (H0 : Hp) (Y : Hp → V → β → Prop) : Hp → V → List β → Prop := fun H v bs => ∃ a vs, v = .ref a ∧ H a = some (.lst vs) ∧ Nw H0 a ∧ Paired (Y H) vs bs
theorem ev_N2L {bs : List β} {H0 : Hp} (h : Ev T (yLN H0 Y) te σ H bs) : Ev T (yL Y) te σ H bs := h.imp fun _ _ _ ⟨a, vs, e, ha, _, l⟩ => ⟨a, vs, e, ha, l⟩
theorem ev_lstN [my : Mono T Y] {t : TA} {ds : List β} (h : EvDs T Y t σ H ds) (hl : ds.length ≤ sizeLine) : Ev T (yLN H Y) (tLst t) σ H ds := fun H1 r1 Q q =>
  h H1 r1 _ fun vs H2 r2 p => ⟨by rw [p.length]; exact hl, fun a ha => q (.ref a) (upd H2 a (.lst vs)) (r2.trans (Rp.new ha)) ⟨a, vs, rfl, upd_same, (r1.trans r2).nw (Nw.of ha), paired_mono (Rp.new (T := T) ha) p⟩⟩
theorem ev_listTN [my : Mono T Y] {bs : List β} (h : Ev T (yT K Y) te σ H bs) : Ev T (yLN H Y) (tCB (rListS K) (tCons te tNil)) σ H bs := fun H1 r1 Q q => h H1 r1 _ fun v H2 r2 ⟨a, vs, e, ha, l⟩ =>
  ⟨a, vs, by rw [e], .inr ha, fun p hp => q _ _ (r2.trans (Rp.new hp)) ⟨p, vs, rfl, upd_same, (r1.trans r2).nw (Nw.of hp), paired_mono (Rp.new (T := T) hp) l⟩⟩
theorem ev_plLN [my : Mono T Y] {bs cs : List β} (ha : Ev T (yL Y) ta σ H bs) (hb : Ev T (yL Y) tb σ H cs) (hl : bs.length + cs.length ≤ sizeLine) : Ev T (yLN H Y) (tOp (rPlus K) ta tb) σ H (bs ++ cs) := fun H1 r1 Q q =>
  ha H1 r1 _ fun x H2 r2 ⟨a, vs, e1, s1, l1⟩ => hb H2 (r1.trans r2) _ fun y H3 r3 ⟨b, ws, e2, s2, l2⟩ =>
    .inr (.inl ⟨a, b, vs, ws, e1, e2, r3.lst s1, s2, by rw [l1.length, l2.length]; exact hl, fun p hp => q _ _ (r2.trans (r3.trans (Rp.new hp))) ⟨p, _, rfl, upd_same, (r1.trans (r2.trans r3)).nw (Nw.of hp), paired_mono (Rp.new (T := T) hp) (paired_app (paired_mono r3 l1) l2)⟩⟩)
theorem ev_lmN {bs : List β} {j : Nat} {ws : List Nat} [iz : Imm Z] (f : β → γ) (hi : EvI T Y wi σ H bs) (he : ∀ b ∈ bs, ∀ x H1, Rp T H H1 → Y H1 x b → Ev T Z te ((wipe σ ws).set j (some x)) H1 (f b))
    (hw : ∀ x, wipe ((wipe σ ws).set j (some x)) ws = wipe σ ws) (hl : bs.length ≤ sizeLine) : Ev T (yLN H Z) (tLc wi (gName j) tYes te ws) σ H (bs.map f) := fun H1 r1 Q q =>
  hi H1 r1 _ fun J H2 r2 W A hA => by
    refine lc_it W (fun i H3 => Rp T H2 H3 ∧ ∃ acc, H3 A = some (.lst acc) ∧ acc.length ≤ i ∧ Paired (Z H3) acc ((bs.take i).map f)) ⟨Rp.new hA, [], upd_same, Nat.zero_le _, by rw [List.take_zero]; exact .nil⟩ (fun _ _ _ h => h.1) (fun i x H3 H4 hi ⟨r3, acc, e3, l3, p3⟩ ⟨r4, b, eb, y⟩ => ?_) fun H3 ⟨r3, acc, e3, _, p3⟩ => ?_
    · have hb := List.mem_of_getElem? eb
      have rr : Rp T H H4 := r1.trans (r2.trans (r3.trans r4))
      refine ⟨hw x, et_yes (T := T) H4 (Rp.refl _) _ fun H5 r5 => ?_⟩
      rw [take_grow eb, List.map_append]
      refine iteT (he b hb x H4 rr y H5 r5 _ fun z H6 r6 yz => ?_)
      have e6 := (r4.trans (r5.trans r6)).lst e3
      refine ⟨acc, e6, Nat.lt_of_le_of_lt l3 (Nat.lt_of_lt_of_le hi hl), (r3.trans (r4.trans (r5.trans r6))).chgL hA e6, _, upd_same, by rw [List.length_append]; exact Nat.succ_le_succ l3, ?_⟩
      have tk : Tk H6 (upd H6 A (.lst (acc ++ [z]))) := Tk.updL e6
      exact paired_snoc (paired_imm tk (paired_imm (r4.trans (r5.trans r6)).tk p3)) (iz.imm tk yz)
    · rw [List.take_length] at p3
      exact q _ H3 (r2.trans r3) ⟨A, acc, rfl, e3, (r1.trans r2).nw (Nw.of hA), p3⟩
/-- new dicts -/
def yKN (K : Fg) (P : Program) (w : World) (H0 : Hp) : Hp → V → List (K20.D × V) → Prop := fun H v kvs => ∃ a, v = .ref a ∧ DictAt K P w H a kvs ∧ Nw H0 a
theorem ev_knew : Ev T (yKN K P w H) (tKNew K P w) σ H [] := fun H1 r1 Q q p H2 hp ⟨o, e⟩ d => q (.ref p) H2 (by rw [e]; exact Rp.new hp) ⟨p, rfl, d, r1.nw (Nw.of hp)⟩
/-- o[e] = x -/
theorem s_setK [my : Mono T Y] {to ti : TE} {d : Addr} {kvs : List (K20.D × V)} {b : β} {key : K20.D} (h : Ev T Y te σ H b) (ho : Ev T yV to σ H (.ref d)) (hi : Ev T (yD K) ti σ H key) (ok : keyOk key = true) (hd : DictAt K P w H d kvs) (hl : kvs.length < sizeLine)
    (k : ∀ v H1 o, Rp T H H1 → Y H1 v b → DictAt K P w H1 d kvs → DictAt K P w (upd H1 d (RawO d o)) d (putK kvs key v) → D.nx σ (upd H1 d (RawO d o))) : tAsg te (gSub to ti (setK K P w)) D σ H :=
  h H (Rp.refl _) _ fun v H1 r1 y => ho H1 r1 _ fun x H2 r2 ex => hi H2 (r1.trans r2) _ fun z H3 r3 dz => by
    have d3 := hd.rp (r1.trans (r2.trans r3))
    exact ⟨d, kvs, key, ex, d3, keyV_of dz ok, hl, fun H' ⟨ob, e⟩ d' => by
      subst e
      exact k v H3 ob (r1.trans (r2.trans r3)) (my.mono (r2.trans r3) y) d3 d'⟩
end
end K20
namespace K20
open PySem PySem.Spec PyProof.Rows L2
section
variable {K : Fg} {P : Program} {w : World} {T : List (Addr × Str)} {H H' : Hp} {σ : L2.St} {te ta tb tl : TE} {β γ δ : Type} {Y : Hp → V → β → Prop} {Z : Hp → V → γ → Prop} {u : TS} {En : Ends}
theorem paired_mem {F : V → β → Prop} : ∀ {vs : List V} {bs : List β}, Paired F vs bs → Paired (fun v b => F v b ∧ b ∈ bs) vs bs
  | _, _, .nil => .nil
  | _, _, .cons a t => .cons ⟨a, List.mem_cons_self⟩ (Paired.mapP (paired_mem t) fun _ _ ⟨x, y⟩ => ⟨x, List.mem_cons_of_mem _ y⟩)
def sortK (kf : β → List Int) (bs : List β) : List β := bs.mergeSort (PySem.W.dataLe false fun b => (tI (kf b)).data)
theorem sortK_perm (kf : β → List Int) (bs : List β) : (sortK kf bs).Perm bs := List.mergeSort_perm bs _
theorem kf_le (kf : β → List Int) (a b : β) : PySem.W.dataLe false (fun b => (tI (kf b)).data) a b = decide (kf a ≤ kf b) := leI_f (kf a) (kf b)
theorem sortK_ord (kf : β → List Int) (bs : List β) : (sortK kf bs).Pairwise fun a b => kf a ≤ kf b := (PySem.W.sort_pairwise (PySem.W.sortLe_total _ false _) bs).imp fun {a b} h => by
  have e := kf_le kf a b
  rw [show PySem.W.dataLe false (fun b => (tI (kf b)).data) a b = true from h] at e
  exact of_decide_eq_true e.symm
theorem sortK_map (f : β → γ) (kf : γ → List Int) (bs : List β) : sortK kf (bs.map f) = (sortK (fun b => kf (f b)) bs).map f := (PySem.W.sort_maps f fun a _ b _ => rfl).symm
/-- sorted(xs, key=lambda ..) -/
theorem ev_sortK {key : (β → List Int) → L2.St → Hp → Addr → β → Prop} (kf : β → List Int) {bs : List β} (hT : LamX.Tabs T H) (h : Ev T (yL Y) te σ H bs) (hk : ∀ H1 v b, Rp T H H1 → b ∈ bs → Y H1 v b → ∃ r, v = .ref r ∧ key kf σ H1 r b) (hm : ∀ H1 H2 r b, Rp T H H1 → Rp T H1 H2 → key kf σ H1 r b → key kf σ H2 r b) (hne : ∀ b ∈ bs, kf b ≠ []) :
    Ev T (yL fun H v b => ∃ r, v = .ref r ∧ key kf σ H r b) (tSortK K T te key) σ H (sortK kf bs) := fun H1 r1 Q q => h H1 r1 _ fun x H2 r2 ⟨a, vs, e, ha, l⟩ => by
  refine ⟨r2.tabs (r1.tabs hT), fun H3 eN T3 => ?_⟩
  have r3 : Rp T H2 H3 := ⟨eN, fun _ => T3⟩
  have l2 : Paired (fun v b => ∃ r, v = V.ref r ∧ key kf σ H3 r b) vs bs := Paired.mapP (paired_mem l) fun v b ⟨y, m⟩ => by
    obtain ⟨r, e, y'⟩ := hk H2 v b (r1.trans r2) m y
    exact ⟨r, e, hm H2 H3 r b (r1.trans r2) r3 y'⟩
  refine ⟨kf, a, vs, bs, e, SqL.of (r3.lst ha), l2, hne, fun p hp zs hz => q (.ref p) _ (r2.trans (r3.trans (Rp.new hp))) ⟨p, zs, rfl, upd_same, Paired.mapP hz fun v b ⟨r, e, y⟩ => ⟨r, e, hm H3 _ r b (r1.trans (r2.trans r3)) (Rp.new hp) y⟩⟩⟩
/-- o.f = e -/
theorem q_fld {C dx p : Addr} {fs : List (Str × V)} {f : Str} {to : TE} {b : β} (h : Ev T Y te σ H b) (ho : Ev T yV to σ H (.ref p)) (hp : H p = some (.ins C dx fs)) (c : Cls K C) (n : NoAttr K C f) (hl : fs.length < 1000) (k : ∀ v H1, Rp T H H1 → Y H1 v b → u En σ (upd H1 p (.ins C dx (putF f v fs)))) (m : ∀ {H1 H2 v}, Rp T H1 H2 → Y H1 v b → Y H2 v b) :
    tSeq (sFld K to te f) u En σ H := h H (Rp.refl _) _ fun v H1 r1 y => ho H1 r1 _ fun x H2 r2 e => ⟨p, C, dx, fs, e, (r1.trans r2).ins hp, c, n, hl, k v H2 (r1.trans r2) (m r2 y)⟩
theorem q_fld1 {C dx p : Addr} {fs : List (Str × V)} {f : Str} {to : TE} {b : β} (h : Ev T Y te σ H b) (ho : Ev T yV to σ H (.ref p)) (hp : H p = some (.ins C dx fs)) (c : Cls K C) (n : NoAttr K C f) (hl : fs.length < 1000) (k : ∀ v H1, Rp T H H1 → Y H1 v b → En.nx σ (upd H1 p (.ins C dx (putF f v fs)))) (m : ∀ {H1 H2 v}, Rp T H1 H2 → Y H1 v b → Y H2 v b) :
    sFld K to te f En σ H := h H (Rp.refl _) _ fun v H1 r1 y => ho H1 r1 _ fun x H2 r2 e => ⟨p, C, dx, fs, e, (r1.trans r2).ins hp, c, n, hl, k v H2 (r1.trans r2) (m r2 y)⟩
/-- a new dict with texts for keys -/
def yDN (H0 : Hp) : Hp → V → Unit → Prop := fun H v _ => ∃ a, v = .ref a ∧ H a = some (.dK []) ∧ Nw H0 a
theorem ev_dnew : Ev T (yDN H) tDNewK σ H () := fun H1 r1 Q q p hp => q (.ref p) _ (Rp.new hp) ⟨p, rfl, upd_same, r1.nw (Nw.of hp)⟩
theorem yKN_mono {H0 H1 H2 : Hp} {v : V} {kvs : List (K20.D × V)} (r : Rp T H1 H2) (h : yKN K P w H0 H1 v kvs) : yKN K P w H0 H2 v kvs := by
  obtain ⟨a, e, d, n⟩ := h
  exact ⟨a, e, d.rp r, n⟩
theorem yDN_mono {H0 H1 H2 : Hp} {v : V} (r : Rp T H1 H2) (h : yDN H0 H1 v ()) : yDN H0 H2 v () := by
  obtain ⟨a, e, d, n⟩ := h
  exact ⟨a, e, r.keep _ _ d (fun _ z => by cases z), n⟩
theorem putF_new {f : Str} {v : V} : ∀ {fs : List (Str × V)}, f ∉ fs.map (·.1) → putF f v fs = fs ++ [(f, v)]
  | [], _ => rfl
  | (g, x) :: r, h => by
    have h1 : g ≠ f := fun e => h (by rw [e]; exact List.mem_cons_self)
    unfold putF
    rw [if_neg h1, putF_new fun m => h (List.mem_cons_of_mem _ m)]
    rfl
/-! ### dicts that grow -/
theorem putK_app {κ : Type} [DecidableEq κ] {kvs : List (κ × V)} {k : κ} {v : V} (h : k ∉ kvs.map (·.1)) : putK kvs k v = kvs ++ [(k, v)] := by
  unfold putK
  rw [if_neg]
  intro q
  obtain ⟨p, hp, e⟩ := List.any_eq_true.mp q
  exact h (List.mem_map.mpr ⟨p, hp, of_decide_eq_true e⟩)
theorem paired_keys {F : V → γ → Prop} {kvs : List (K20.D × V)} {ms : List (K20.D × γ)} (h : Paired (fun (p : K20.D × V) (q : K20.D × γ) => p.1 = q.1 ∧ F p.2 q.2) kvs ms) : kvs.map (·.1) = ms.map (·.1) := by
  induction h with
  | nil => rfl
  | cons a _ ih => rw [List.map_cons, List.map_cons, ih, a.1]
theorem paired_snocK {F : V → γ → Prop} {kvs : List (K20.D × V)} {ms : List (K20.D × γ)} {k : K20.D} {v : V} {g : γ} (h : Paired (fun (p : K20.D × V) (q : K20.D × γ) => p.1 = q.1 ∧ F p.2 q.2) kvs ms) (y : F v g) : Paired (fun (p : K20.D × V) (q : K20.D × γ) => p.1 = q.1 ∧ F p.2 q.2) (kvs ++ [(k, v)]) (ms ++ [(k, g)]) := by
  have one : Paired (fun (p : K20.D × V) (q : K20.D × γ) => p.1 = q.1 ∧ F p.2 q.2) [(k, v)] [(k, g)] := .cons ⟨rfl, y⟩ .nil
  exact app one h
where app {m1 : List (K20.D × V)} {m2 : List (K20.D × γ)} (one : Paired (fun (p : K20.D × V) (q : K20.D × γ) => p.1 = q.1 ∧ F p.2 q.2) m1 m2) : ∀ {l1 : List (K20.D × V)} {l2 : List (K20.D × γ)}, Paired (fun (p : K20.D × V) (q : K20.D × γ) => p.1 = q.1 ∧ F p.2 q.2) l1 l2 → Paired (fun (p : K20.D × V) (q : K20.D × γ) => p.1 = q.1 ∧ F p.2 q.2) (l1 ++ m1) (l2 ++ m2)
  | _, _, .nil => one
  | _, _, .cons a t => .cons a (app one t)
end
end K20
namespace K20
open PySem PySem.Spec PyProof.Rows L2
/-! ### rules with the written part by name (within a comprehension's block) -/
section
variable {X : Cx} {P : Program} {w : World} {e : Expr} {f : Str} {pos : Pos} {ta : TE}
theorem pe_fldK (K : Fg) (he : PE X e ta) (hb : attributeBase e f X.env (eval e X.env) = eval e X.env) (hK : X.K = K) : PE X (.Attribute e f pos) (tFld K ta f) := by
  subst hK
  exact pe_fld he hb
theorem ix_anyK (K : Fg) (P : Program) (w : World) (hu : X.A.units + 9 < cLine) (hK : X.K = K) (hP : X.prog = P) (hw : X.w = w) : IxR X (rSub K P w) := by
  subst hK hP hw
  exact ix_any hu
theorem op_inUK (K : Fg) (P : Program) (w : World) (hu : X.A.units + 9 < cLine) (hK : X.K = K) (hP : X.prog = P) (hw : X.w = w) : OpR X (compareOp .In) (rInU K P w false) := by
  subst hK hP hw
  exact op_inU hu
theorem op_notinUK (K : Fg) (P : Program) (w : World) (hu : X.A.units + 9 < cLine) (hK : X.K = K) (hP : X.prog = P) (hw : X.w = w) : OpR X (compareOp .NotIn) (rInU K P w true) := by
  subst hK hP hw
  exact op_notinU hu
theorem call_lenUK (K : Fg) (P : Program) (w : World) (hK : X.K = K) (hP : X.prog = P) (hw : X.w = w) : CallR X (.builtin "len") (rLenU K P w) := by
  subst hK hP hw
  exact call_lenU
theorem op_plusK (K : Fg) (hK : X.K = K) : OpR X (binaryOp .Add) (rPlus K) := by
  subst hK
  exact op_plus
theorem op_eqKK (K : Fg) (hu : X.A.units + 64 < cLine) (hK : X.K = K) : OpR X (compareOp .Eq) (rEqK K) := by
  subst hK
  exact op_eqK hu
theorem op_neKK (K : Fg) (hu : X.A.units + 64 < cLine) (hK : X.K = K) : OpR X (compareOp .NotEq) (rNeK K) := by
  subst hK
  exact op_neK hu
end
section
variable {K : Fg} {T : List (Addr × Str)} {H : Hp} {σ : L2.St} {tl : TE} {β : Type} {Y : Hp → V → β → Prop} {g : TG} {u : TS} {En : Ends}
/-- for x in a list that is known -/
theorem s_forA [my : Imm Y] {bs : List β} {a : Addr} {vs : List V} (h : Ev T yV tl σ H (.ref a)) (ha : H a = some (.lst vs)) (l : Paired (Y H) vs bs)
    (k : ∀ H2, Rp T H H2 → ∃ Pv : Nat → L2.St → Hp → Prop, Pv 0 σ H2 ∧ (∀ i σ' H', Pv i σ' H' → Tk H2 H' ∧ H' a = some (.lst vs)) ∧ (∀ i b σ' H' x, bs[i]? = some b → Pv i σ' H' → Y H' x b → g x σ' H' fun σ3 H3 => u { En with nx := Pv (i + 1), ct := Pv (i + 1), bk := En.nx } σ3 H3) ∧ ∀ σ' H', Pv bs.length σ' H' → En.nx σ' H') :
    tFor (iList K tl) g u En σ H := h H (Rp.refl _) _ fun v H2 r2 e => by
  obtain ⟨Pv, p0, pk, ps, pe⟩ := k H2 r2
  obtain rfl : v = V.ref a := e
  refine ⟨a, rfl, ⟨vs, SqL.of (r2.lst ha)⟩, ?_⟩
  refine for_it (walk_list (K := K) (a := a) (xs := vs)) Pv p0 (fun i σ' H' _ p => SqL.of (pk i σ' H' p).2) (fun i x σ' H3 H4 hi p ⟨e1, e2⟩ => ?_) (fun σ' H' p => pe σ' H' (by rw [← l.length]; exact p))
  subst e1
  obtain ⟨b, hb, yb⟩ := paired_get l e2
  exact ps i b σ' H4 x hb p (my.imm (r2.tk.trans (pk i σ' H4 p).1) yb)
theorem Nw.ne {H : Hp} {a c : Addr} {o : HO} (h : Nw H c) (ha : H a = some o) (n : ∀ ps, o ≠ .tbl ps) : a ≠ c := fun e => by
  rw [e] at ha
  obtain ⟨ps, z⟩ := h o ha
  exact n ps z
end
end K20
namespace K20
open PySem PySem.Spec PyProof.Rows L2
section
variable {K : Fg} {T : List (Addr × Str)} {H : Hp} {σ : L2.St} {wi : TI} {β : Type} {Y : Hp → V → β → Prop} {u : TS} {En : Ends}
/-- a loop that changes no object -/
theorem f_for {j : Nat} {bs : List β} (hi : EvI T Y wi σ H bs) (Ps : Nat → L2.St → Prop) (p0 : Ps 0 σ)
    (k : ∀ H2, Rp T H H2 → (∀ i b σ' H' x, bs[i]? = some b → Rp T H2 H' → Ps i σ' → Y H' x b → u { En with nx := fun σ3 H3 => Rp T H2 H3 ∧ Ps (i + 1) σ3, ct := fun σ3 H3 => Rp T H2 H3 ∧ Ps (i + 1) σ3, bk := En.nx } (σ'.set j (some x)) H') ∧ ∀ σ' H', Rp T H2 H' → Ps bs.length σ' → En.nx σ' H') :
    tFor wi (gName j) u En σ H := hi H (Rp.refl _) _ fun J H2 r2 W => by
  obtain ⟨ks, kd⟩ := k H2 r2
  refine for_it W (fun i σ' H' => Rp T H2 H' ∧ Ps i σ') ⟨Rp.refl _, p0⟩ (fun _ _ _ _ h => h.1) (fun i x σ' H3 H4 hi p ⟨r4, b, eb, y⟩ => ?_) (fun σ' H' p => kd σ' H' p.1 p.2)
  exact ks i b σ' H4 x eb (p.1.trans r4) p.2 y
theorem Rets.go {ε : Type} {Yr : Hp → V → ε → Prop} {t : TS} {e : ε} (h : Rets T Yr t σ H e) (k : ∀ v H2, Rp T H H2 → Yr H2 v e → En.rt v H2) : t En σ H := h H (Rp.refl _) En k
end
end K20
namespace K20
open PySem PySem.Spec PyProof.Rows L2
/-! ### all stays but dicts with texts for keys; but one object -/
def Rw (H H' : Hp) : Prop := ∀ a o, H a = some o → (∀ ps, o ≠ .tbl ps) → (∀ l, o ≠ .dK l) → H' a = some o
structure Rk (T : List (Addr × Str)) (k : Addr) (H H' : Hp) : Prop where
  keep : ∀ a o, a ≠ k → H a = some o → (∀ ps, o ≠ .tbl ps) → H' a = some o
  tabs : LamX.Tabs T H → LamX.Tabs T H'
section
variable {T : List (Addr × Str)} {H H' H0 H1 H2 : Hp} {k a C dx : Addr} {K : Fg} {xs : List V} {fs : List (Str × V)} {o : HO}
theorem Rw.refl (H : Hp) : Rw H H := fun _ _ h _ _ => h
theorem Rw.trans (a : Rw H H1) (b : Rw H1 H2) : Rw H H2 := fun c o h n m => b c o (a c o h n m) n m
theorem Rp.rw_ (r : Rp T H H') : Rw H H' := fun a o h n _ => r.keep a o h n
theorem Rw.lst (r : Rw H H') (h : H a = some (.lst xs)) : H' a = some (.lst xs) := r _ _ h (fun _ z => by cases z) (fun _ z => by cases z)
theorem Rw.ins (r : Rw H H') (h : H a = some (.ins C dx fs)) : H' a = some (.ins C dx fs) := r _ _ h (fun _ z => by cases z) (fun _ z => by cases z)
theorem Rw.frz {ob : Obj} {u : HO} (r : Rw H H') (h : H a = some (.frz ob u)) : H' a = some (.frz ob u) := r _ _ h (fun _ z => by cases z) (fun _ z => by cases z)
theorem Rw.tk (r : Rw H H') : Tk H H' := fun K a xs h => by
  rcases h with (h | ⟨o, h⟩) | h
  · exact .inl (.inl (r _ _ h (fun _ z => by cases z) (fun _ z => by cases z)))
  · exact .inl (.inr ⟨o, r.frz h⟩)
  · exact .inr h
theorem Rw.dict {P : Program} {w : World} {kvs : List (D × V)} (r : Rw H H') (h : DictAt K P w H a kvs) : DictAt K P w H' a kvs := by
  obtain ⟨o, e, _⟩ := h.raw
  exact h.keep (fun u e' => by
    rw [e] at e'
    cases e'
    exact r _ _ e (fun ps => RawO.noTbl ps) (fun l z => by unfold RawO at z; cases z)) r.tk
class MonoW {β : Type} (Y : Hp → V → β → Prop) : Prop where
  mono : ∀ {H H' : Hp} {v : V} {b : β}, Rw H H' → Y H v b → Y H' v b
instance {β : Type} {Y : Hp → V → β → Prop} [i : Imm Y] : MonoW Y := ⟨fun r h => i.imm r.tk h⟩
theorem paired_monoW {β : Type} {Y : Hp → V → β → Prop} [m : MonoW Y] (r : Rw H H') {vs : List V} {bs : List β} (h : Paired (Y H) vs bs) : Paired (Y H') vs bs := Paired.mapP h fun _ _ q => m.mono r q
instance {β : Type} {Y : Hp → V → β → Prop} [MonoW Y] : MonoW (yL Y) := ⟨fun r ⟨a, vs, e, h, l⟩ => ⟨a, vs, e, r.lst h, paired_monoW r l⟩⟩
instance {β γ : Type} {Y : Hp → V → β → Prop} {Z : Hp → V → γ → Prop} [my : MonoW Y] [mz : MonoW Z] : MonoW (yP K Y Z) := ⟨fun r ⟨a, x, y, e, h, l, m⟩ => ⟨a, x, y, e, r.tk K _ _ h, my.mono r l, mz.mono r m⟩⟩
instance {γ : Type} {P : Program} {w : World} {Z : Hp → V → γ → Prop} [mz : MonoW Z] : MonoW (yM K P w Z) := ⟨fun r ⟨a, kvs, e, d, l⟩ => ⟨a, kvs, e, r.dict d, Paired.mapP l fun _ _ ⟨h1, h2⟩ => ⟨h1, mz.mono r h2⟩⟩⟩
theorem Rk.refl (H : Hp) : Rk T k H H := ⟨fun _ _ _ h _ => h, id⟩
theorem Rk.trans (a : Rk T k H H1) (b : Rk T k H1 H2) : Rk T k H H2 := ⟨fun c o n h t => b.keep c o n (a.keep c o n h t) t, fun t => b.tabs (a.tabs t)⟩
theorem Rp.rk (r : Rp T H H') : Rk T k H H' := ⟨fun a o _ h n => r.keep a o h n, r.tabs⟩
theorem Rk.rw_ {l : List (Key × V)} (r : Rk T k H H') (h : H k = some (.dK l)) : Rw H H' := fun a o e n m => r.keep a o (fun z => m l (by rw [z, h] at e; exact (Option.some.inj e).symm)) e n
theorem Rk.rp (x : Rk T k H H') (r : Rp T H0 H) (n : Nw H0 k) : Rp T H0 H' := ⟨fun a o h t => by
  by_cases e : a = k
  · subst e
    obtain ⟨ps, z⟩ := n o h
    exact absurd z (t ps)
  · exact x.keep a o e (r.keep a o h t) t, fun t => x.tabs (r.tabs t)⟩
theorem Rk.chg {l : List (Key × V)} (r : Rk T k H H1) (h : H1 k = some (.dK l)) : Rk T k H (upd H1 k o) := ⟨fun a u n e t => by rw [upd_ne n]; exact r.keep a u n e t, fun t => Rp.tabs_upd (r.tabs t) (fun ps z => by rw [h] at z; cases z) (fun q z => by rw [h] at z; unfold LamX.CodeO at z; cases z)⟩
theorem Rp.chgKN {l : List (Key × V)} {p : Addr} (r : Rp T H H1) (hp : Nw H p) (h1 : H1 p = some (.dK l)) : Rp T H (upd H1 p o) := r.chg hp h1 (fun _ z => by cases z) (fun _ z => by unfold LamX.CodeO at z; cases z)
theorem Nw.rk {p : Addr} (n : Nw H1 p) (r : Rk T k H H1) (hk : p ≠ k) : Nw H p := fun o e => by
  by_cases t : ∃ ps, o = HO.tbl ps
  · exact t
  · exact n o (r.keep p o hk e fun ps z => t ⟨ps, z⟩)
end
/-! ### a thing is frozen for good -/
def tFrz (t : TS) : TS := fun D σ H => ∃ d u, H d = some u ∧ Mut (some u) ∧ ∀ od, t D σ (upd H d (.frz od u))
theorem ps_frz {X : Cx} {st : Stmt} {t : TS} (h : PS X st t) : PS X st (tFrz t) := by
  constructor
  rintro pins s σ H D I ⟨a, u, ha, mu, run⟩
  obtain ⟨o1, I1⟩ := I.lock ha mu
  exact h.run pins s σ _ _ I1 (run o1)
section
variable {K : Fg} {P : Program} {w : World} {T : List (Addr × Str)} {H H' : Hp} {σ : L2.St} {te ta tb : TE}
/-- what is known to stand there, by name -/
theorem ev_at {β : Type} {Y : Hp → V → β → Prop} [m : Mono T Y] {v : V} {b : β} (y : Y H v b) : Ev T Y (tC v) σ H b := fun H1 r1 Q q => q v H1 (Rp.refl _) (m.mono r1 y)
/-- o[text], a dict with texts for keys; the key in it or not -/
theorem raw_suS {a : Addr} {kvs : List (Key × V)} {z : Str} {v : V} {Q : VK} (h : Rd H a (.dK kvs)) (hv : valV kvs (.inr z) = some v) (q : Q v H) : rSub K P w (.ref a) (.str z) H Q := .inr (.inr (.inr ⟨a, kvs, z, v, rfl, rfl, h, hv, q⟩))
theorem raw_inS {a : Addr} {kvs : List (Key × V)} {z : Str} {n : Bool} {Q : VK} (h : Rd H a (.dK kvs)) (q : Q (.bl (if n then !(valV kvs (.inr z)).isSome else (valV kvs (.inr z)).isSome)) H) : rInU K P w n (.str z) (.ref a) H Q := .inr (.inl ⟨a, kvs, z, rfl, rfl, h, q⟩)
end
end K20
namespace K20
open PySem PySem.Spec PyProof.Rows L2
section
variable {X : Cx}
/-- e: the comprehension; mk: its new object; lp: its loop by one turn; bd: what gathers -/
theorem gc_core2 {use : Option (Value → Sem Unit)} {Qf : Value → Shared → Prop} {pins : List (Addr × Obj)} {s : Shared} {σ : L2.St} {H : Hp} {Q : VK} {e tg iter : Expr} {ifs : List Expr} {rest : List Comprehension} {scope : Scope} {own : List (Str × Nat)} {pos' : Pos} {wi : TI} {g : TG} {tt : TT} {ini : Addr → Hp → Hp → Prop}
    {acc : L2.St → Hp → Addr → (Hp → Prop) → Prop} {mk : Sem Value} {new : World → Obj} {bd : Env → Addr → (Shared → Prop) → Shared → Prop} (hcl : clausesOf e = ⟨tg, iter, ifs, 0⟩ :: rest)
    (hmk : ∀ (s : Shared) (Q : Value → Shared → Prop), Q (.ref s.heap.objs.size) { s with heap := s.heap.push (new X.w) } → wpAny (model X.prog X.w) X.A mk Q X.xe s)
    (hnew : ∀ (s : Shared) (H : Hp), Inv X pins σ H s → ∃ o, ini s.heap.objs.size H (upd H s.heap.objs.size o) ∧ ∀ H', ObjOk X.prog X.w H' (s.heap.push (new X.w)) s.heap.objs.size o)
    (hlp : ∀ (it A : Addr) (cenv : Env) (R : Result → Shared → Prop) (I : Nat → Shared → Prop) (s : Shared),
      (∀ k s, I k s → wpAny (model X.prog X.w) X.A (pyNext (.ref it)) (fun r s1 => match r with
        | none => R (.ok .next) s1
        | some v => wpAny (model X.prog X.w) X.A (letOwnedTupleGo tg (.ref it) v) (fun _ s2 => wpAny (model X.prog X.w) X.A (assign tg cenv v) (fun _ s3 =>
            wpAny (model X.prog X.w) X.A (testsOf ifs cenv) (fun ok sB => if ok = true then bd cenv A (fun sC => ∃ m, m < k ∧ I m sC) sB else ∃ m, m < k ∧ I m sB) (fun _ _ => False) s3) (fun _ _ => False) s2) (fun _ _ => False) s1) (fun _ _ => False) s) →
      ∀ k, I k s → codeAny (model X.prog X.w) X.A (.compLoop e 0 (.ref it) (.ref A) cenv) R s)
    (hst : ∀ (it A : Addr) (cenv : Env) (R : Result → Shared → Prop) (s : Shared), codeAny (model X.prog X.w) X.A (.compLoop e 0 (.ref it) (.ref A) cenv) R s →
      (∀ E, wpAny (model X.prog X.w) X.A (pyIter (.ref it)) (fun it' s' => codeAny (model X.prog X.w) X.A (.compLoop e 0 it' (.ref A) cenv) R s') E s) → codeAny (model X.prog X.w) X.A (.compStart e 0 (.ref it) (.ref A) cenv) R s)
    (hc : X.calm = true) (hN : X.N.Nodup) (I : Inv X pins σ H s)
    (hi : PI X tg iter wi) (ok : BlkOk X.N X.env.scope scope own)
    (hg : ∀ s H C cl fp, PG (blkX X scope s H C cl fp) tg g) (ht : ∀ s H C cl fp, PTs (blkX X scope s H C cl fp) ifs tt)
    (hb : ∀ s H C cl fp A pins s' σ' H' Nx, Inv (blkX X scope s H C cl fp) pins σ' H' s' → acc σ' H' A Nx → bd (compEnvC scope cl C X.env) A (fun s2 => ∃ H2, Inv (blkX X scope s H C cl fp) pins σ' H2 s2 ∧ Nx H2) s')
    (hmn : ∀ cenv A (P P' : Shared → Prop) s, (∀ s, P s → P' s) → bd cenv A P s → bd cenv A P' s)
    (hs : ∀ x, foldedSetIterable iter X.env x = pure x) (h : tGc ini wi g tt acc (own.map (·.2)) σ H Q)
    (hRR : ∀ A C s' m H', Inv X pins σ H' s' → Q (.ref A) H' → s'.heap.Ns C m → FpOk X pins H' C → compPost (model X.prog X.w) X.A X.xe use Qf (.ref A) C (.ok .next) s') :
    wpAny (model X.prog X.w) X.A (comprehension e scope X.env pos' mk false (eval iter X.env) use) Qf X.xe s := by
  have hfree : ∀ y ∈ scope.names, y.2 = .free → ∃ c, X.env.cells.lookup y.1 = some c := fun y hy z => (ok.free y hy z).elim (fun k => I.ok.has _ (.inl k)) fun k => I.ok.has _ (.inr k)
  refine wpAny_comprehension_free (use := use) hcl hs (closure_ok hfree) ok.kind (fun y hy z => by rw [ok.uniq y hy, z]) (thn (hi.run pins s σ H _ I h) fun xv s1 hx => thn hx fun itv s2 h2 => ?_)
  obtain ⟨it, fp, tn, J, H2, e1, I2, T, st2, f2, q⟩ := h2
  subst e1
  refine hmk s2 _ (newEnv_comp ?_)
  obtain ⟨o, hini, hok⟩ := hnew s2 H2 I2
  generalize hA : s2.heap.objs.size = A at hini hok ⊢
  have hAn : H2 A = none := I2.hok.fresh (Nat.le_of_eq hA)
  obtain ⟨W, ⟨m0, w0⟩, turn⟩ := q A _ hAn hini
  have h3 : Inv X pins σ (upd H2 A o) { s2 with heap := s2.heap.push (new X.w) } := I2.laid (a := A) (t' := s2.toks) (fun b u z => Heap.get?_push_of_some _ z) (Nat.le_of_eq hA) (hok _)
  have szn : s2.heap.objs.size < (s2.heap.push (new X.w)).objs.size := by rw [Heap.size_push]; exact Nat.lt_succ_self _
  generalize hs3 : ({ s2 with heap := s2.heap.push (new X.w) } : Shared) = s3 at h3
  have e3 : s3.heap = s2.heap.push (new X.w) := by rw [← hs3]
  have f3 : ∀ b ∈ fp, FpOk X pins (upd H2 A o) b ∧ b < s3.heap.objs.size := fun b hb => by
    obtain ⟨u, z, _⟩ := T.obj _ _ st2 b hb
    have lt := Heap.lt_size z
    exact ⟨⟨by rw [upd_ne (by rw [← hA]; exact Nat.ne_of_lt lt)]; exact (f2 b hb).1, (f2 b hb).2⟩, by rw [e3]; exact Nat.lt_trans lt szn⟩
  have st3 : tn 0 s3.heap := T.keep _ _ _ st2 fun b _ u z => by rw [e3]; exact Heap.get?_push_of_some _ z
  have I4 := block_start h3 ok hN f3
  show codeAny _ _ (.compStart e 0 (.ref it) (.ref A) (compEnvC scope (cellsFrom (s3.heap.objs.size + 1) scope.names (cloFrom X.env.cells scope.names [])) s3.heap.objs.size X.env)) (compPost (model X.prog X.w) X.A X.xe use Qf (.ref A) s3.heap.objs.size) { s3 with heap := pushCells (s3.heap.push { cls := .type "dict", data := .dict #[] }) scope.names }
  generalize hcs : cellsFrom (s3.heap.objs.size + 1) scope.names (cloFrom X.env.cells scope.names []) = cs at I4 ⊢
  have nfp : ∀ b ∈ fp, (upd H2 A o) b = none := fun b hb => (f3 b hb).1.1
  generalize hH3 : upd H2 A o = H3 at *
  generalize eB : ({ s3 with heap := pushCells (s3.heap.push { cls := .type "dict", data := .dict #[] }) scope.names } : Shared) = sB at I4 ⊢
  have st4 : tn 0 sB.heap := T.keep _ _ _ st3 fun b _ u z => by rw [← eB]; exact pushCells_keeps _ _ _ _ (Heap.get?_push_of_some _ z)
  have B := fun C => compEnvC scope cs C X.env
  have stat : ∀ {σ' : L2.St} {H' : Hp} {s' : Shared}, Inv (blkX X scope s3 H3 s3.heap.objs.size cs fp) [] σ' H' s' → (∀ b ∈ fp, H' b = none) → ∀ b ∈ fp, FpOk (blkX X scope s3 H3 s3.heap.objs.size cs fp) [] H' b := fun I' hn b hb =>
    ⟨hn b hb, (I'.ok.exf b hb).1, I'.ok.exfs b hb, .inl hb, fun x c z => (I'.ok.exf b hb).2 x c z, fun p hp => by cases (show p ∈ ([] : List (Addr × Obj)) from hp)⟩
  have loop : codeAny (model X.prog X.w) X.A (.compLoop e 0 (.ref it) (.ref A) (compEnvC scope cs s3.heap.objs.size X.env)) (compPost (model X.prog X.w) X.A X.xe use Qf (.ref A) s3.heap.objs.size) sB := by
    refine hlp it A _ _ (fun n s' => ∃ i H', Inv (blkX X scope s3 H3 s3.heap.objs.size cs fp) [] (wipe σ (own.map (·.2))) H' s' ∧ tn i s'.heap ∧ (∀ b ∈ fp, H' b = none) ∧ W i n H') sB ?_ m0 ⟨0, H3, I4, st4, nfp, w0⟩
    rintro n sC ⟨i, HC, IC, tC, mC, vC⟩
    rcases turn i n HC vC with ⟨fini, qE⟩ | ⟨go, Nx, hMx, step⟩
    · refine thnF (T.done (blkX X scope s3 H3 s3.heap.objs.size cs fp) rfl rfl rfl hc i [] sC _ HC (fun _ _ => False) IC (stat IC mC) tC fini) fun r s6 ⟨hr, I6⟩ => ?_
      subst hr
      have IG : Inv X pins σ HC s6 := h3.call' (ch := fp) I6.os I6.base I6.hok I6.bare fun b hb => ⟨(f3 b hb).1.2.2.2.1, (f3 b hb).1.2.1, (f3 b hb).1.2.2.2.2.1, (f3 b hb).1.2.2.2.2.2⟩
      have nC : HC s3.heap.objs.size = none := I6.free
      obtain ⟨m, hn, _⟩ := I6.loc
      exact hRR A _ s6 m HC IG qE hn (h3.fpOk (Nat.le_refl _) nC)
    · refine thnF (T.item (blkX X scope s3 H3 s3.heap.objs.size cs fp) rfl rfl rfl hc i [] sC _ HC (fun _ _ => False) IC (stat IC mC) tC go) fun r s6 ⟨u, hr, h6⟩ => ?_
      subst hr
      refine thnF h6 fun _ sG ⟨x, HG, IG, rG, yG, tG, mG⟩ => ?_
      refine thnF ((hg s3 H3 s3.heap.objs.size cs fp).run _ sG _ HG x u _ (IG.pinned (stat IG mG) (T.obj _ _ tG)) rG (step x HG yG)) fun _ s8 ⟨σ8, H8, I8, hw8, q8⟩ => ?_
      refine thnF ((ht s3 H3 s3.heap.objs.size cs fp).run _ s8 σ8 H8 _ I8 q8) fun b s9 ⟨H9, I9, q9⟩ => ?_
      have fin : ∀ {s' : Shared} {H' : Hp}, Inv (blkX X scope s3 H3 s3.heap.objs.size cs fp) ([] ++ pinsAt fp sG.heap) σ8 H' s' → Nx H' → ∃ m, m < n ∧ ∃ i H', Inv (blkX X scope s3 H3 s3.heap.objs.size cs fp) [] (wipe σ (own.map (·.2))) H' s' ∧ tn i s'.heap ∧ (∀ b ∈ fp, H' b = none) ∧ W i m H' := fun I' nx => by
        obtain ⟨m', hm, w'⟩ := hMx _ nx
        have pin : ∀ b ∈ fp, ∀ u, sG.heap.get? b = some u → _ := fun b hb u z => I'.pin (b, u) (List.mem_append_right _ (List.mem_append_right _ (mem_pinsAt hb z)))
        refine ⟨m', hm, i + 1, _, (I'.unpinned (pins := [])).weak (by rw [← hw8, wipe_length]) (fun j v z => by rw [← hw8] at z; exact (wipe_some z).1), T.keep _ _ _ tG fun b hb u z => (pin b hb u z).1, fun b hb => ?_, w'⟩
        obtain ⟨u, z, _⟩ := T.obj _ _ tG b hb
        exact (pin b hb u z).2.1
      cases b with
      | false =>
        rw [if_neg Bool.false_ne_true] at q9 ⊢
        exact fin I9 q9
      | true =>
        rw [if_pos rfl] at q9 ⊢
        exact hmn _ A _ _ s9 (fun s10 ⟨H10, I10, nx⟩ => fin I10 nx) (hb s3 H3 s3.heap.objs.size cs fp A _ s9 σ8 H9 Nx I9 q9)
  exact hst it A _ _ sB loop fun E => T.self X.A 0 _ _ _ st4 loop

/-- name = {..} on one line, the name a local -/
theorem ps_setKdc {i : Nat} {y : Str} {py : Pos} {spos : Pos} {kx vx tg iter : Expr} {ifs : List Expr} {scope : Scope} {own : List (Str × Nat)} {pos : Pos} {wi : TI} {g : TG} {tt : TT} {tk tv : TE} (hu : X.A.units + 9 < cLine) (hc : X.calm = true) (hN : X.N.Nodup) (hy : X.N[i]? = some y) (hyl : X.env.scope.names.lookup y = some .local)
    (hsw : swapsWith (.DictComp kx vx [⟨tg, iter, ifs, 0⟩] scope pos) (some (.Name y py)) spos.line X.env = pure true) (hi : PI X tg iter wi) (ok : BlkOk X.N X.env.scope scope own)
    (hg : ∀ s H C cl fp, PG (blkX X scope s H C cl fp) tg g) (ht : ∀ s H C cl fp, PTs (blkX X scope s H C cl fp) ifs tt) (hk : ∀ s H C cl fp, PE (blkX X scope s H C cl fp) kx tk) (hv : ∀ s H C cl fp, PE (blkX X scope s H C cl fp) vx tv)
    (hs : ∀ x, foldedSetIterable iter X.env x = pure x := by intro _; rfl) : PS X (.Assign [.Name y py] (.DictComp kx vx [⟨tg, iter, ifs, 0⟩] scope pos) spos) (tAsg (tGc (iniD X.K X.prog X.w) wi g tt (accD X.K X.prog X.w tk tv) (own.map (·.2))) (gName i)) := by
  refine ⟨fun pins s σ H D I h => ?_⟩
  rw [exec_Assign_Name_used _ _ _ _ hsw]
  refine wpAny_bind (wpAny_standAt (wpAny_bind ?_))
  show wpAny _ X.A (do let _ ← comprehension (.DictComp kx vx [⟨tg, iter, ifs, 0⟩] scope pos) scope X.env (firstIterPos [⟨tg, iter, ifs, 0⟩] pos) (newObj (.type "dict") (.dict #[])) false (eval iter X.env) (some (assign (.Name y py) X.env))) _ _ s
  have h : tGc (iniD X.K X.prog X.w) wi g tt (accD X.K X.prog X.w tk tv) (own.map (·.2)) σ H (fun x H1 => gName i x σ H1 D.nx) := h
  refine wpAny_bind (thn (gc_core2 (Qf := fun _ s' => SP X pins D .next s') (new := fun _ => { cls := .type "dict", data := .dict #[] }) (bd := fun cenv A P s => wpAny (model X.prog X.w) X.A (eval kx cenv) (fun kv sB => wpAny (model X.prog X.w) X.A (eval vx cenv) (fun vv sC => wpAny (model X.prog X.w) X.A (dictSet A kv vv) (fun _ s6 => P s6) (fun _ _ => False) sC) (fun _ _ => False) sB) (fun _ _ => False) s)
    rfl (fun s Q q => wpAny_newObj_type q) (fun s H I => ⟨RawO s.heap.objs.size { cls := .type "dict", data := .dict #[] }, ⟨⟨_, rfl⟩, ⟨_, #[], 0, [], upd_same, ⟨rfl, rfl, rfl⟩, rfl, rfl, .nil⟩, List.nodup_nil, Nat.zero_le _, beq_eq_false_iff_ne.mpr (Ne.symm (Nat.ne_of_lt I.big))⟩, fun H' => RawO.ok (Heap.get?_push_size _ rfl)⟩)
    (fun it A cenv R I s turn k hI => compLoop_anyD I (fun n s hn => ?_) k hI) (fun it A cenv R s h0 h1 => codeAny_compStart_dict h0 (h1 _)) hc hN I hi ok hg ht (fun s H C cl fp A pins s' σ' H' Nx I q => ?_) (fun cenv A P P' s hp h => ?_) hs h (fun L C s' m H' I' q hn f => ?_)) fun _ s' hq => wpAny_pure (wpAny_pure hq))
  · refine thnF (turn n s hn) fun r s1 h1 => ?_
    cases r with
    | none => exact h1
    | some v =>
      refine thnF h1 fun _ s2 h2 => thnF h2 fun _ s3 h3 => thnF h3 fun ok sB h4 => ?_
      cases ok with
      | false => exact h4
      | true => exact thnF h4 fun kv sC h5 => thnF h5 fun vv s6 h6 => thnF h6 fun _ sG h7 => h7
  · refine thnF ((hk s H C cl fp).run pins s' σ' H' _ I q) fun kv s1 ⟨y, H1, I1, r1, q1⟩ => thnF ((hv s H C cl fp).run pins s1 σ' H1 _ I1 q1) fun vv s2 ⟨z, H2, I2, r2, d, kvs, k, ed, x, ⟨hk, hdp, b, eb⟩, hl, q2⟩ => ?_
    cases ed
    subst eb
    obtain rfl : kv = Value.ref b := r1
    exact d_setD (X := blkX X scope s H C cl fp) hu I2 x hk hdp r2 hl fun H3 s3 I3 e x' => ⟨H3, I3, q2 H3 e x'⟩
  · exact thnF h fun kv s1 h1 => thnF h1 fun vv s2 h2 => thnF h2 fun _ s3 h3 => hp s3 h3
  · show wpAny _ _ (assign (.Name y py) X.env (.ref L)) _ _ _
    refine wpAny_assign_Name (store_ok2 (v := V.ref L) I' hN hy (.inl hyl) rfl (fun sE IE ⟨a, sbE, ha⟩ => ?_) (.inr hyl))
    obtain ⟨u0, u1, u2, u3, u4, u5⟩ := f
    have haC : C ≠ a := by
      rcases ha with z | z
      · rw [z]; exact u1
      · exact fun e => u4 y a z e.symm
    refine ⟨m, hn.sameBut sbE haC, fun hE same => ?_⟩
    exact ⟨_, H', IE.turned (t' := sE.toks) (fun b o hb e => (same.2 b hb).trans e) u0 u1 u3 u4 u5, q⟩
theorem sw_trueD {kx vx : Expr} {gs : List Comprehension} {scope : Scope} {pos py : Pos} {y : Str} {l : Nat} {env : Env} (hk : env.scope.kind = .function) (hy : env.scope.names.lookup y = some .local) (hl : (py.line == pos.line) = true)
    (ha : (scope.names.any fun (n, k) => n == y && (k == .local || k == .cell)) = false) : swapsWith (.DictComp kx vx gs scope pos) (some (.Name y py)) l env = pure true := by
  have hb : env.blockKind = .function := by
    unfold Env.blockKind
    rw [hk]
    rfl
  unfold swapsWith
  simp only [hb, ha, Expr.pos, hl, show env.kindOf y = some .local from hy]
  rfl
end
/-! ### comprehensions that make dicts, sets -/
section
variable {K : Fg} {P : Program} {w : World} {T : List (Addr × Str)} {H H' : Hp} {σ : L2.St} {te tk tv : TE} {wi : TI} {β γ : Type} {Y : Hp → V → β → Prop} {Z : Hp → V → γ → Prop}
theorem nd_take {κ : Type} {bs : List β} {f : β → κ} (nd : (bs.map f).Nodup) {i : Nat} {b : β} (hb : bs[i]? = some b) : f b ∉ (bs.take i).map f := fun m => by
  obtain ⟨c, hc, e⟩ := List.mem_map.mp m
  have hl := (List.getElem?_eq_some_iff.mp hb).1
  have e1 : bs[i] = b := (List.getElem?_eq_some_iff.mp hb).2
  have split : bs = bs.take i ++ b :: bs.drop (i + 1) := by rw [← e1, ← List.drop_eq_getElem_cons hl, List.take_append_drop]
  rw [split, List.map_append] at nd
  exact (List.nodup_append.mp nd).2.2 _ (List.mem_map.mpr ⟨c, hc, rfl⟩) _ (List.mem_map.mpr ⟨b, List.mem_cons_self, rfl⟩) e
theorem ev_kdc {bs : List β} {j : Nat} {ws : List Nat} [iz : Imm Z] (kf : β → K20.D) (vf : β → γ) (hi : EvI T Y wi σ H bs) (hk : ∀ b ∈ bs, ∀ x H1, Rp T H H1 → Y H1 x b → Ev T (yD K) tk ((wipe σ ws).set j (some x)) H1 (kf b)) (hv : ∀ b ∈ bs, ∀ x H1, Rp T H H1 → Y H1 x b → Ev T Z tv ((wipe σ ws).set j (some x)) H1 (vf b))
    (ok : ∀ b ∈ bs, keyOk (kf b) = true) (nd : (bs.map kf).Nodup) (hw : ∀ x, wipe ((wipe σ ws).set j (some x)) ws = wipe σ ws) (hl : bs.length ≤ sizeLine) : Ev T (yM K P w Z) (tGc (iniD K P w) wi (gName j) tYes (accD K P w tk tv) ws) σ H (bs.map fun b => (kf b, vf b)) := fun H1 r1 Q q =>
  hi H1 r1 _ fun J H2 r2 W A HA hA ⟨⟨oA, eA⟩, dA⟩ => by
    have rA : Rp T H2 HA := by rw [eA]; exact Rp.new hA
    refine gc_it W (fun i H3 => Rp T H2 H3 ∧ ∃ kv, DictAt K P w H3 A kv ∧ Paired (fun (p : K20.D × V) (e : K20.D × γ) => p.1 = e.1 ∧ Z H3 p.2 e.2) kv ((bs.take i).map fun b => (kf b, vf b))) ⟨rA, [], dA, by rw [List.take_zero]; exact .nil⟩ (fun _ _ _ h => h.1) (fun i x H3 H4 hi' ⟨r3, kv, d3, p3⟩ ⟨r4, b, eb, y⟩ => ?_) fun H3 ⟨r3, kv, d3, p3⟩ => ?_
    · have hb := List.mem_of_getElem? eb
      have rr : Rp T H H4 := r1.trans (r2.trans (r3.trans r4))
      refine ⟨hw x, et_yes (T := T) H4 (Rp.refl _) _ fun HC r5 => ?_⟩
      refine iteT (hk b hb x H4 rr y HC r5 _ fun yk H6 r6 dk => ?_)
      refine hv b hb x H4 rr y H6 (r5.trans r6) _ fun yv HG rG zv => ?_
      have r47 := r4.trans (r5.trans (r6.trans rG))
      have d7 := d3.rp r47
      have k3 : kv.map (·.1) = (bs.take i).map kf := by
        have z := paired_keys p3
        rw [List.map_map] at z
        exact z
      have lk : kv.length < sizeLine := by
        have z := p3.length
        rw [List.length_map, List.length_take] at z
        omega
      refine ⟨A, kv, kf b, rfl, d7, keyV_of (Mono.mono (T := T) (Y := yD K) rG dk) (ok b hb), lk, fun H8 ⟨o8, e8⟩ d8 => ?_⟩
      rw [putK_app (by rw [k3]; exact nd_take nd eb)] at d8
      have tk8 : Tk HG H8 := by rw [e8]; exact d7.tk
      refine ⟨by rw [e8]; exact (r3.trans r47).chgDN (Nw.of hA) d7, _, d8, ?_⟩
      rw [take_grow eb, List.map_append]
      exact paired_snocK (F := Z H8) (Paired.mapP p3 fun _ _ ⟨q1, q2⟩ => ⟨q1, iz.imm (r47.tk.trans tk8) q2⟩) (iz.imm tk8 zv)
    · rw [List.take_length] at p3
      exact q _ H3 (r2.trans r3) ⟨A, kv, rfl, d3, p3⟩
/-- a set of n tuples -/
def ySn (K : Fg) (P : Program) (w : World) : Hp → V → Nat → Prop := fun H v n => ∃ ks, ySet K P w H v ks ∧ ks.length = n
theorem ev_leSn {n : Nat} (h : Ev T (ySn K P w) te σ H n) : Ev T yI (tCB (rLenU K P w) (tCons te tNil)) σ H (n : Int) := fun H1 r1 Q q => h H1 r1 _ fun v H2 r2 ⟨ks, ⟨A, L, e, hA, l⟩, hn⟩ =>
  .inr (.inr (.inl ⟨A, L, by rw [e], hA, q _ H2 r2 (by rw [← hn, ← l, List.length_map]; rfl)⟩))
end
end K20
namespace K20
open PySem PySem.Spec PyProof.Rows L2
theorem setTO_noCode {P : Program} {w : World} {a : Addr} {L : List (Addr × List Int)} (q : Str) : SetTO P w a L ≠ LamX.CodeO a q := by
  intro e
  unfold SetTO LamX.CodeO at e
  injection e with e
  have hg : (heapOf a { cls := .none, data := .fields #[.none, .str q 0] }).get? a = some { cls := .none, data := .fields #[.none, .str q 0] } := by
    unfold Heap.get?
    have e : (heapOf a { cls := .none, data := .fields #[.none, .str q 0] }).objs[a]? = some { cls := .none, data := .fields #[.none, .str q 0] } := by
      show (Array.replicate (a + 1) _)[a]? = some _
      simp
    rw [e]
  have z := congrFun e (heapOf a { cls := .none, data := .fields #[.none, .str q 0] })
  have z2 : SetT0 P w (heapOf a { cls := .none, data := .fields #[.none, .str q 0] }) a L := z.mpr ⟨_, _, 0, hg, rfl, rfl⟩
  obtain ⟨es, ep, t, ⟨o, ho, hex, hd⟩, _⟩ := z2.ex
  rw [hg] at ho
  cases ho
  cases hd
section
variable {K : Fg} {P : Program} {w : World} {T : List (Addr × Str)} {H H' : Hp} {σ : L2.St} {te tk tv : TE} {wi : TI} {β γ : Type} {Y : Hp → V → β → Prop}
theorem ev_kset {bs : List β} {j : Nat} {ws : List Nat} (kf : β → List Int) (hi : EvI T Y wi σ H bs) (hk : ∀ b ∈ bs, ∀ x H1, Rp T H H1 → Y H1 x b → Ev T (yk K) te ((wipe σ ws).set j (some x)) H1 (kf b))
    (nd : (bs.map kf).Nodup) (hw : ∀ x, wipe ((wipe σ ws).set j (some x)) ws = wipe σ ws) (hl : bs.length ≤ 60) : Ev T (ySn K P w) (tGc (iniS P w) wi (gName j) tYes (accS K P w te) ws) σ H bs.length := fun H1 r1 Q q =>
  hi H1 r1 _ fun J H2 r2 W A HA hA eA => by
    have eA : HA = upd H2 A (SetTO P w A []) := eA
    have rA : Rp T H2 HA := by rw [eA]; exact Rp.new hA
    refine gc_it W (fun i H3 => Rp T H2 H3 ∧ ∃ L, H3 A = some (SetTO P w A L) ∧ (∀ p ∈ L, SqT K H3 p.1 (p.2.map V.int)) ∧ (L.map (·.2)).Perm ((bs.take i).map kf)) ⟨rA, [], by rw [eA]; exact upd_same, fun p hp => (by cases hp), by rw [List.take_zero]; exact .refl _⟩ (fun _ _ _ h => h.1) (fun i x H3 H4 hi' ⟨r3, L, d3, t3, p3⟩ ⟨r4, b, eb, y⟩ => ?_) fun H3 ⟨r3, L, d3, t3, p3⟩ => ?_
    · have hb := List.mem_of_getElem? eb
      have rr : Rp T H H4 := r1.trans (r2.trans (r3.trans r4))
      have nS : ∀ (ps : Array Value) (M : List (Addr × List Int)), SetTO P w A M ≠ .tbl ps := fun ps M z => by unfold SetTO at z; cases z
      refine ⟨hw x, et_yes (T := T) H4 (Rp.refl _) _ fun H5 r5 => ?_⟩
      refine iteT (hk b hb x H4 rr y H5 r5 _ fun yk H6 r6 dk => ?_)
      have r46 := r4.trans (r5.trans r6)
      have d6 := r46.keep _ _ d3 (fun ps => nS ps L)
      obtain ⟨a, ea, sa⟩ := yk_inv dk
      have lL : L.length = i := by
        have z := p3.length_eq
        rw [List.length_map, List.length_map, List.length_take] at z
        omega
      refine ⟨a, kf b, L, ea, sa, d6, fun p hp => r46.tup (t3 p hp), by omega, fun L' h1 h2 => ?_⟩
      have fresh : kf b ∉ L.map (·.2) := fun z => nd_take nd eb (p3.mem_iff.mp z)
      have pL := h2 fresh
      have tk : Tk H6 (upd H6 A (SetTO P w A L')) := Tk.upd d6 (fun xs z => by unfold SetTO at z; cases z) (fun ob xs z => by unfold SetTO at z; cases z)
      refine ⟨(r3.trans r46).chg (Nw.of hA) d6 (fun ps => nS ps L) (fun q => setTO_noCode q), L', upd_same, fun p hp => ?_, ?_⟩
      · rcases List.mem_cons.mp (pL.mem_iff.mp hp) with z | hp
        · rw [z]; exact tk K _ _ sa
        · exact tk K _ _ (r46.tup (t3 p hp))
      · rw [take_grow eb, List.map_append]
        refine (pL.map (·.2)).trans ?_
        show (kf b :: L.map (·.2)).Perm _
        refine (List.Perm.cons (kf b) p3).trans ?_
        exact List.perm_append_comm (l₁ := [kf b])
    · rw [List.take_length] at p3
      refine q _ H3 (r2.trans r3) ⟨L.map (·.2), ⟨A, L, rfl, d3, rfl⟩, ?_⟩
      have z := p3.length_eq
      rw [z, List.length_map]
end
end K20
namespace K20
open PySem PySem.Spec PyProof.Rows L2
/-! ### a list or a tuple -/
def iLT (K : Fg) (tl : TE) : TI := fun σ H R => tl σ H fun x H1 => ∃ a, x = .ref a ∧ (((∃ xs, SqL K H1 a xs) ∧ R (Itl K a) H1) ∨ ((∃ xs, SqT K H1 a xs) ∧ R (Itt K a) H1))
theorem pi_lt {X : Cx} {tg l : Expr} {tl : TE} (hl : PE X l tl) : PI X tg l (iLT X.K tl) := by
  refine ⟨fun pins s σ H R I h => ?_⟩
  refine thn (hl.run pins s σ H _ I h) fun v s1 ⟨x, H1, I1, r1, q1⟩ => ?_
  obtain ⟨a, e, q⟩ := q1
  subst e
  cases r1
  have new : ∀ b ∈ [s1.heap.objs.size], FpOk X pins H1 b := fun b hb => by
    obtain rfl : b = s1.heap.objs.size := List.mem_singleton.mp hb
    exact I1.fpOk (Nat.le_refl _) (I1.hok.fresh (Nat.le_refl _))
  rcases q with ⟨⟨xs, hq⟩, q⟩ | ⟨⟨xs, hq⟩, q⟩
  · obtain ⟨its, rv, p, hz⟩ := I1.list hq
    exact wpAny_pyIter_list p.isList ⟨_, _, _, _, H1, rfl, I1.kept (t' := s1.toks) fun b o e => Heap.get?_push_of_some _ e, turn_list a _, ⟨_, Heap.get?_push_size _ rfl, rfl, rfl⟩, new, q⟩
  · obtain ⟨its, rv, p, hz⟩ := I1.tuple hq
    exact wpAny_pyIter_tuple (show s1.heap.IsTuple a its.toArray from p) ⟨_, _, _, _, H1, rfl, I1.kept (t' := s1.toks) fun b o e => Heap.get?_push_of_some _ e, turn_tuple a _, ⟨_, Heap.get?_push_size _ rfl, rfl, rfl⟩, new, q⟩
section
variable {K : Fg} {T : List (Addr × Str)} {H H' : Hp} {σ : L2.St} {te tl : TE} {β : Type} {Y : Hp → V → β → Prop}
def yLT (K : Fg) (Y : Hp → V → β → Prop) : Hp → V → List β → Prop := fun H v bs => yL Y H v bs ∨ yT K Y H v bs
instance [Mono T Y] : Mono T (yLT K Y) := ⟨fun r h => h.imp (Mono.mono (T := T) r) (Mono.mono (T := T) r)⟩
theorem evi_lt [my : Mono T Y] {bs : List β} (h : Ev T (yLT K Y) tl σ H bs) : EvI T Y (iLT K tl) σ H bs := fun H1 r1 Rk k => h H1 r1 _ fun v H2 r2 y => by
  rcases y with ⟨a, vs, e, ha, l⟩ | ⟨a, vs, e, ha, l⟩
  · refine ⟨a, e, .inl ⟨⟨vs, SqL.of ha⟩, k _ H2 r2 ?_⟩⟩
    rw [← l.length]
    exact (walk_list (K := K) (a := a) (xs := vs)).mono (fun H3 r3 => SqL.of (r3.lst ha)) fun i H3 x H4 hi r3 ⟨e1, e2⟩ => by
      subst e1
      exact ⟨Rp.refl _, paired_get (paired_mono r3 l) e2⟩
  · refine ⟨a, e, .inr ⟨⟨vs, ha⟩, k _ H2 r2 ?_⟩⟩
    rw [← l.length]
    exact (walk_tup (K := K) (a := a) (xs := vs)).mono (fun H3 r3 => r3.tup ha) fun i H3 x H4 hi r3 ⟨e1, e2⟩ => by
      subst e1
      exact ⟨Rp.refl _, paired_get (paired_mono r3 l) e2⟩
theorem ev_listLT [my : Mono T Y] {bs : List β} (h : Ev T (yLT K Y) te σ H bs) : Ev T (yL Y) (tCB (rListS K) (tCons te tNil)) σ H bs := fun H1 r1 Q q => h H1 r1 _ fun v H2 r2 y => by
  rcases y with ⟨a, vs, e, ha, l⟩ | ⟨a, vs, e, ha, l⟩
  · exact ⟨a, vs, by rw [e], .inl (SqL.of ha), fun p hp => q _ _ (r2.trans (Rp.new hp)) ⟨p, vs, rfl, upd_same, paired_mono (Rp.new (T := T) hp) l⟩⟩
  · exact ⟨a, vs, by rw [e], .inr ha, fun p hp => q _ _ (r2.trans (Rp.new hp)) ⟨p, vs, rfl, upd_same, paired_mono (Rp.new (T := T) hp) l⟩⟩
theorem tyx_seq {v : V} {bs : List β} (h : yLT K Y H v bs) : ∃ t, TyX K H v t ∧ PySem.W.kitAny K t [.type "list", .type "tuple"] = some true := by
  rcases h with ⟨a, vs, rfl, ha, l⟩ | ⟨a, vs, rfl, ha, l⟩
  · exact ⟨_, .base (.lst ha), kl⟩
  · refine ⟨.type "tuple", ?_, kt⟩
    rcases ha with (ha | ⟨o, ha⟩) | ⟨o, _, _, h1, h2, _⟩
    · exact .base (.tup ha)
    · exact .fTuple ha
    · exact .kTuple h1 h2
where
  kl : PySem.W.kitAny K (.type "list") [.type "list", .type "tuple"] = some true := by
    unfold PySem.W.kitAny
    rw [show PySem.W.kitOne K (.type "list") (.type "list") = some true from kit_ty (a := "list") (by decide +kernel)]
  kt : PySem.W.kitAny K (.type "tuple") [.type "list", .type "tuple"] = some true := by
    unfold PySem.W.kitAny PySem.W.kitAny
    rw [show PySem.W.kitOne K (.type "tuple") (.type "list") = some false from kit_ty (a := "tuple") (by decide +kernel)]
    rw [show PySem.W.kitOne K (.type "tuple") (.type "tuple") = some true from kit_ty (a := "tuple") (by decide +kernel)]
/-- isinstance(v, (list, tuple)) -/
theorem ev_isiLT {bs : List β} [Mono T Y] (h : Ev T (yLT K Y) te σ H bs) : Ev T yB (tCB (rIsiT K) (tCons te (tCons (tTup (tCons (tC (.ty "list")) (tCons (tC (.ty "tuple")) tNil))) tNil))) σ H true := fun H1 r1 Q q => h H1 r1 _ fun v H2 r2 y => by
  refine ⟨by show 2 ≤ sizeLine; decide, fun p hp => ?_⟩
  obtain ⟨t, h1, h2⟩ := tyx_seq (Mono.mono (T := T) (Rp.new hp) y)
  exact ⟨v, p, _, t, _, true, rfl, upd_same, .cons (.ty "list") (.cons (.ty "tuple") .nil), h1, h2, q _ _ (r2.trans (Rp.new hp)) rfl⟩
end
end K20
namespace K20
open PySem PySem.Spec PyProof.Rows L2
section
variable {X : Cx}
/-- * of ints, one of them small -/
theorem op_mulX : OpR X (binaryOp .Mult) (rI IntMulOk fun i j => .int (i * j)) := opI fun _ _ _ _ _ _ _ hc q => mul_int q hc
def rEqL (K : Fg) : R2 := fun x y H Q => ∃ a b xs ys ds es, x = .ref a ∧ y = .ref b ∧ SqL K H a xs ∧ SqL K H b ys ∧ DtL K H xs ds ∧ DtL K H ys es ∧ okD (.tup ds) = true ∧ okD (.tup es) = true ∧ Q (.bl (decide (ds = es))) H
theorem Dt.readsL {pins : List (Addr × Obj)} {σ : L2.St} {H : Hp} {s : Shared} (I : Inv X pins σ H s) {a : Addr} {xs : List V} {ds : List D} (sq : SqL X.K H a xs) (l : DtL X.K H xs ds) : ∃ as, Reads s.heap (.ref a) (.list (NestedKey.datas ds)) as := by
  obtain ⟨its, rv, p, hz⟩ := I.list sq
  obtain ⟨o, ho, hc, n, hd⟩ := p.isList
  exact ⟨_, .list ho hc hd (by simpa using DtL.reads I ds l rv)⟩
theorem shL {ds : List D} (h : okD (.tup ds) = true) : SeqAt.shaped (.list (NestedKey.datas ds)) = true := okD.sh h
theorem op_eqL (hu : X.A.units + 64 < cLine) : OpR X (compareOp .Eq) (rEqL X.K) := by
  intro pins s σ H x y v u Q I rx ry h
  obtain ⟨a, b, xs, ys, ds, es, rfl, rfl, sa, sb, la, lb, da, db, q⟩ := h
  cases (show v = Value.ref a from rx)
  cases (show u = Value.ref b from ry)
  obtain ⟨as, ra⟩ := Dt.readsL I sa la
  obtain ⟨bs, rb⟩ := Dt.readsL I sb lb
  refine SeqAt.compareEq_shaped ra rb (shL da) (shL db) hu ⟨.bl _, H, I, rfl, ?_⟩
  have e : PyData.eqv (.list (NestedKey.datas ds)) (.list (NestedKey.datas es)) = decide (ds = es) := by
    show PyData.eqvAll (NestedKey.datas ds) (NestedKey.datas es) = _
    have z := eqv_data (.tup ds) (.tup es)
    rw [← NestedKey.decide_eq] at z
    show PyData.eqv (NestedKey.tup ds).data (NestedKey.tup es).data = _
    rw [z]
    by_cases q : ds = es
    · rw [q, decide_eq_true rfl, decide_eq_true rfl]
    · rw [decide_eq_false q, decide_eq_false (fun z => q (NestedKey.tup.inj z))]
  rw [e]
  exact q
end
section
variable {K : Fg} {T : List (Addr × Str)} {H H' : Hp} {σ : L2.St} {te ta tb : TE} {β : Type} {Y : Hp → V → β → Prop}
theorem ev_mul {i j : Int} (ha : Ev T yI ta σ H i) (hb : Ev T yI tb σ H j) (hc : IntMulOk i j) : Ev T yI (tOp (rI IntMulOk fun i j => .int (i * j)) ta tb) σ H (i * j) := ev_IIc ha hb hc fun _ => rfl
theorem ev_mod {i j : Int} (ha : Ev T yI ta σ H i) (hb : Ev T yI tb σ H j) (hc : 0 < j) : Ev T yI (tOp (rI (fun _ j => 0 < j) fun i j => .int (i % j)) ta tb) σ H (i % j) := ev_IIc ha hb hc fun _ => rfl
theorem ev_fdiv {i j : Int} (ha : Ev T yI ta σ H i) (hb : Ev T yI tb σ H j) (hc : CDivW i j) : Ev T yI (tOp (rI CDivW fun i j => .int (i / j)) ta tb) σ H (i / j) := ev_IIc ha hb hc fun _ => rfl
theorem ev_pow {i j : Int} (ha : Ev T yI ta σ H i) (hb : Ev T yI tb σ H j) (hc : CPow i j) : Ev T yI (tOp (rI CPow fun i j => .int (i ^ j.toNat)) ta tb) σ H (i ^ j.toNat) := ev_IIc ha hb hc fun _ => rfl
/-- int(an int) -/
theorem ev_toI {r : List V → Hp → VK → Prop} {i : Int} (hr : r = fun xs H Q => (∃ i, xs = [.int i] ∧ Q (.int i) H) ∨ ∃ k, xs = [.bl k] ∧ Q (.int (if k then 1 else 0)) H) (h : Ev T yI te σ H i) : Ev T yI (tCB r (tCons te tNil)) σ H i := by
  subst hr
  exact fun H1 r1 Q q => h H1 r1 _ fun v H2 r2 e => .inl ⟨i, by rw [show v = V.int i from e], q _ H2 r2 rfl⟩
theorem small_mul {i j : Int} (h : Builtin.Int.intBits j ≤ 64) : IntMulOk i j := IntMulOk.of_right h
end
end K20
namespace K20
open PySem PySem.Spec PyProof.Rows L2
section
variable {P : Program} {w : World} {K : Fg} {mg : Str → Option Value} {base : Heap} {T : List (Addr × Str)}
theorem rt_if2 {ε : Type} {Y : Hp → V → ε → Prop} {H : Hp} {σ : L2.St} {tt : TT} {t u : TS} {c : Bool} {e : ε} (h : EvT T tt σ H c) (h1 : c = true → Rets T Y t σ H e) (h2 : c = false → Rets T Y u σ H e) : Rets T Y (tIfS tt t u) σ H e := fun H1 r1 D k => h H1 r1 _ fun H2 r2 => by
  cases c with
  | true => exact iteT (h1 rfl H2 (r1.trans r2) D fun v H3 r3 y => k v H3 (r2.trans r3) y)
  | false => exact iteF (h2 rfl H2 (r1.trans r2) D fun v H3 r3 y => k v H3 (r2.trans r3) y)
theorem sc_is_integer : FnScope ["value"] ["value"] (defScope s_is_integer) := ⟨rfl, rfl, rfl, by decide +kernel, rfl, by decide +kernel, by decide +kernel⟩
theorem bd_is_integer (E : Tp K mg w T base) : Binds K E.d_is_integer ["value"] [] := E.F_is_integer.bindsN fun _ _ _ _ _ _ us hl => match us, hl with | [_], _ => rfl
def sp_is_integer (T : List (Addr × Str)) : Sp := PSp T (a1 yI) (fun _ => True) yB fun _ => true
theorem ok_is_integer (E : Tp K mg w T base) : FnOk P w K mg base CX0 1 E.f_is_integer E.d_is_integer ["value"] (sp_is_integer T) :=
  ok_rets E.F_is_integer sc_is_integer (fun _ _ _ h => len1 h) fun cdv Ar outer s H Ex hr => ⟨_, PSs.nox (pss_one (ps_ret (pe_and (pe_callB call_isi (by rfl) E.isinstance (by decide +kernel) (pa_cons (pv 0) (pa_cons (pe_bltn (v := .ty "int") (u := .type "int") (by rfl) E.int (by decide +kernel) rfl) pa_nil))) (pe_one (pe_not (pe_callB call_isi (by rfl) E.isinstance (by decide +kernel) (pa_cons (pv 0) (pa_cons (pe_bltn (v := .ty "bool") (u := .type "bool") (by rfl) E.bool (by decide +kernel) rfl) pa_nil)))))))), fun vs a ⟨v, e, y⟩ _ => by
    subst e
    have hv : Ev T (yD K) (tVar 0) (start ["value"] [v]) H (.num a) := ev_ID (ev_var rfl y)
    exact rt_retE (ev_andV (ev_isi hv (kt_num_int _)) fun _ => ev_notV (ev_isi hv (kt_num_bool _))) rfl⟩
theorem sc_is_number : FnScope ["value", "least"] ["value", "least"] (defScope s_is_number) := ⟨rfl, rfl, rfl, by decide +kernel, rfl, by decide +kernel, by decide +kernel⟩
theorem bd_is_number (E : Tp K mg w T base) : Binds K E.d_is_number ["value", "least"] [] := E.F_is_number.bindsN fun _ _ _ _ _ _ us hl => match us, hl with | [_, _], _ => rfl
def sp_is_number (T : List (Addr × Str)) : Sp := PSp T (a2 yI yI) (fun _ => True) yB fun a => decide (a.1 ≥ a.2)
theorem ok_is_number (E : Tp K mg w T base) : FnOk P w K mg base CX0 2 E.f_is_number E.d_is_number ["value", "least"] (sp_is_number T) :=
  ok_rets E.F_is_number sc_is_number (fun _ _ _ h => len2 h) fun cdv Ar outer s H Ex hr => ⟨_, PSs.nox (pss_one (ps_ret (pe_and (pe_call (ok_is_integer (T := T) E) (hr.mono (by decide)) (by rfl) E.g_is_integer E.F_is_integer.kp (bd_is_integer E) .nil pass0 (pa_cons (pv 0) pa_nil)) (pe_one (pe_cmpR op_ge (pv 0) (pv 1) (nomark _)))))), fun vs a ⟨v, u, e, y, z⟩ _ => by
    subst e
    exact rt_retE (ev_andV (ev_c1 (ev_var rfl y) trivial) fun _ => ev_cmp (ev_var rfl y) (ev_var rfl z)) (Bool.true_and _)⟩
theorem sc_is_clock : FnScope ["value", "one"] ["value"] (defScope s_is_clock) := ⟨rfl, rfl, rfl, by decide +kernel, rfl, by decide +kernel, by decide +kernel⟩
theorem bd_is_clock (E : Tp K mg w T base) : Binds K E.d_is_clock ["value"] [] := E.F_is_clock.bindsN fun _ _ _ _ _ _ us hl => match us, hl with | [_], _ => rfl
def sp_is_clock (K : Fg) (T : List (Addr × Str)) : Sp := PSp T (a1 (yk K)) (fun c => c.length = 4 ∧ ∀ i ∈ c, 0 ≤ i) yB fun _ => true
theorem ok_is_clock (E : Tp K mg w T base) : FnOk P w K mg base CX0 3 E.f_is_clock E.d_is_clock ["value"] (sp_is_clock K T) :=
  ok_rets E.F_is_clock sc_is_clock (fun _ _ _ h => len1 h) fun cdv Ar outer s H Ex hr => ⟨_, PSs.nox (pss_cons (ps_if (PW.pt (pw_or (pt_not (pt_val (pe_callB call_isi (by rfl) E.isinstance (by decide +kernel) (pa_cons (pv 0) (pa_cons (pe_bltn (v := .ty "tuple") (u := .type "tuple") (by rfl) E.tuple (by decide +kernel) rfl) pa_nil))))) (pw_or1 (pt_cmpR (op_neK (hu64 hr)) (pe_callB call_lenU (by rfl) E.len (by decide +kernel) (pa_cons (pv 0) pa_nil)) (pe_callB call_lenU (by rfl) E.len (by decide +kernel) (pa_cons (pe_glob (by rfl) E.g_HANDS_clocks E.r_HANDS_clocks) pa_nil)) (nomark _))))) (pss_one (ps_ret pe_bl)) pss_nil) (pss_one (ps_ret (pe_callB (cr_all rfl) (by rfl) E.all (by decide +kernel) (pa_cons (pe_lc (own := [("one", 1)]) (g := gName 1) (tt := tYes) rfl sc_is_clock.nd (pi_tup (pv 0)) (blkOk_by (own := [("one", 1)]) (N := ["value", "one"]) (sc := defScope s_is_clock) (by decide +kernel)) (fun _ _ _ _ _ => (pg_name (i := 1) sc_is_clock.nd rfl (.inl rfl))) (fun _ _ _ _ _ => pts_nil) (fun _ _ _ _ _ => (pe_call (ok_is_number (T := T) E) (hr.mono (by decide)) (by rfl) E.g_is_number E.F_is_number.kp (bd_is_number E) .nil pass0 (pa_cons (pv 1) (pa_cons pe_int pa_nil))))) pa_nil))))), fun vs c ⟨v, e, y⟩ ⟨hl, hp⟩ => by
    subst e
    have hv : Ev T (yk K) (tVar 0) (start ["value", "one"] [v]) H c := ev_var rfl y
    refine rt_no (evT_eq (et_or (et_not (et_B (ev_isi (ev_kD hv) (kt_tup_tuple _)))) fun _ => et_test (ev_neI (ev_lek hv) (ev_lek (ev_tc E.q_HANDS_clocks)))) ?_) ?_
    · rw [hl]
      rfl
    · refine rt_retE (ev_all (ev_lm (fun i => decide (i ≥ (0 : Int))) (evi_tup (ev_kT hv)) (fun i hi x H1 r1 z => ev_c2 (a := i) (b := (0 : Int)) (ev_var rfl z) ev_int trivial) (fun _ => rfl) (by rw [hl]; decide))) ?_
      rw [List.all_map, List.all_eq_true]
      exact fun i hi => decide_eq_true (hp i hi)⟩
theorem sc_is_within : FnScope ["a", "b", "one", "other"] ["a", "b"] (defScope s_is_within) := ⟨rfl, rfl, rfl, by decide +kernel, rfl, by decide +kernel, by decide +kernel⟩
theorem bd_is_within (E : Tp K mg w T base) : Binds K E.d_is_within ["a", "b"] [] := E.F_is_within.bindsN fun _ _ _ _ _ _ us hl => match us, hl with | [_, _], _ => rfl
def sp_is_within (K : Fg) (T : List (Addr × Str)) : Sp := PSp T (a2 (yk K) (yk K)) (fun p => p.1.length ≤ 4) yB fun p => (p.1.zip p.2).all fun q => decide (q.1 ≤ q.2)
theorem ok_is_within (E : Tp K mg w T base) : FnOk P w K mg base CX0 1 E.f_is_within E.d_is_within ["a", "b"] (sp_is_within K T) :=
  ok_rets E.F_is_within sc_is_within (fun _ _ _ h => len2 h) fun cdv Ar outer s H Ex hr => ⟨_, PSs.nox (pss_one (ps_ret (pe_callB (cr_all rfl) (by rfl) E.all (by decide +kernel) (pa_cons (pe_lc (own := [("one", 2), ("other", 3)]) (g := gTup K 2 (gCons (gName 2) (gCons (gName 3) gNil))) (tt := tYes) rfl sc_is_within.nd (RZ.pi_zipA (by rfl) E.zip (pa_cons (pv 0) (pa_cons (pv 1) pa_nil))) (blkOk_by (own := [("one", 2), ("other", 3)]) (N := ["a", "b", "one", "other"]) (sc := defScope s_is_within) (by decide +kernel)) (fun _ _ _ _ _ => (pg_tup rfl (pgs_cons (pg_name (i := 2) sc_is_within.nd rfl (.inl rfl)) (pgs_cons (pg_name (i := 3) sc_is_within.nd rfl (.inl rfl)) pgs_nil)))) (fun _ _ _ _ _ => pts_nil) (fun _ _ _ _ _ => (pe_cmpR op_le (pv 2) (pv 3) (nomark _)))) pa_nil)))), fun vs p ⟨v, u, e, y, z⟩ hl => by
    subst e
    refine rt_retE (ev_all (ev_lm2 (fun q => decide (q.1 ≤ q.2)) (evi_zipT (ev_kT (ev_var rfl y)) (ev_kT (ev_var rfl z))) (fun q hq x x' H1 r1 z1 z2 => ev_cmp (ev_var rfl z1) (ev_var rfl z2)) (fun _ _ => rfl) ?_)) ?_
    · rw [List.length_zip]
      have : (4 : Nat) ≤ sizeLine := by decide
      omega
    · rw [List.all_map]
      rfl⟩
theorem sc_counts_id : FnScope ["clock", "id_pair"] ["clock", "id_pair"] (defScope s_counts_id) := ⟨rfl, rfl, rfl, by decide +kernel, rfl, by decide +kernel, by decide +kernel⟩
theorem bd_counts_id (E : Tp K mg w T base) : Binds K E.d_counts_id ["clock", "id_pair"] [] := E.F_counts_id.bindsN fun _ _ _ _ _ _ us hl => match us, hl with | [_, _], _ => rfl
def sp_counts_id (K : Fg) (T : List (Addr × Str)) : Sp := PSp T (a2 (yk K) (yk K)) (fun p => p.1.length = 4 ∧ ∃ h n, Hand h ∧ p.2 = [h, n]) yB fun p => decide (ck p.1 (p.2.getD 0 0) ≥ p.2.getD 1 0)
theorem ok_counts_id (E : Tp K mg w T base) : FnOk P w K mg base CX0 1 E.f_counts_id E.d_counts_id ["clock", "id_pair"] (sp_counts_id K T) :=
  ok_rets E.F_counts_id sc_counts_id (fun _ _ _ h => len2 h) fun cdv Ar outer s H Ex hr => ⟨_, PSs.nox (pss_one (ps_ret (pe_cmpR op_ge (pe_ix (ix_any (hu9 hr)) (pv 0) (pe_op op_sub (pe_ix (ix_any (hu9 hr)) (pv 1) pe_int (fun _ _ => by rfl)) pe_int) (fun _ _ => by rfl)) (pe_ix (ix_any (hu9 hr)) (pv 1) pe_int (fun _ _ => by rfl)) (nomark _)))), fun vs p ⟨v, u, e, y, z⟩ ⟨hl, h, n, hh, ep⟩ => by
    subst e
    obtain ⟨c, d⟩ := p
    have ep : d = [h, n] := ep
    subst ep
    have hd : Ev T (yk K) (tVar 1) (start ["clock", "id_pair"] [v, u]) H [h, n] := ev_var rfl z
    exact rt_ret (ev_cmp (ev_suk (ev_var rfl y) (ev_sub (ev_suk hd ev_int rfl) ev_int) (ck_at hl hh)) (ev_suk hd ev_int rfl))⟩
theorem sc_id_of : FnScope ["deed"] ["deed"] (defScope s_id_of) := ⟨rfl, rfl, rfl, by decide +kernel, rfl, by decide +kernel, by decide +kernel⟩
theorem bd_id_of (E : Tp K mg w T base) : Binds K E.d_id_of ["deed"] [] := E.F_id_of.bindsN fun _ _ _ _ _ _ us hl => match us, hl with | [_], _ => rfl
def sp_id_of (K : Fg) (T : List (Addr × Str)) : Sp := PSp T (a1 (ydd K)) (fun _ => True) (yk K) Deed.id
theorem ok_id_of (E : Tp K mg w T base) : FnOk P w K mg base CX0 1 E.f_id_of E.d_id_of ["deed"] (sp_id_of K T) :=
  ok_rets E.F_id_of sc_id_of (fun _ _ _ h => len1 h) fun cdv Ar outer s H Ex hr => ⟨_, PSs.nox (pss_one (ps_ret (pe_tup (pa_cons (pe_ix (ix_any (hu9 hr)) (pv 0) pe_int (fun _ _ => by rfl)) (pa_cons (pe_ix (ix_any (hu9 hr)) (pv 0) pe_int (fun _ _ => by rfl)) pa_nil))))), fun vs x ⟨v, e, y⟩ _ => by
    subst e
    have hv : Ev T (ydd K) (tVar 0) (start ["deed"] [v]) H x := ev_var rfl y
    exact rt_ret (ev_tupk (eds_cons (ev_h hv ev_int) (eds_cons (ev_n hv ev_int) eds_nil)) (by show 2 ≤ sizeLine; decide))⟩
theorem sc_is_hand : FnScope ["value"] ["value"] (defScope s_is_hand) := ⟨rfl, rfl, rfl, by decide +kernel, rfl, by decide +kernel, by decide +kernel⟩
theorem bd_is_hand (E : Tp K mg w T base) : Binds K E.d_is_hand ["value"] [] := E.F_is_hand.bindsN fun _ _ _ _ _ _ us hl => match us, hl with | [_], _ => rfl
def sp_is_hand (T : List (Addr × Str)) : Sp := PSp T (a1 yI) (fun _ => True) yB fun i => decide (i ≥ 1) && decide (i ≤ 4)
theorem ok_is_hand (E : Tp K mg w T base) : FnOk P w K mg base CX0 3 E.f_is_hand E.d_is_hand ["value"] (sp_is_hand T) :=
  ok_rets E.F_is_hand sc_is_hand (fun _ _ _ h => len1 h) fun cdv Ar outer s H Ex hr => ⟨_, PSs.nox (pss_one (ps_ret (pe_and (pe_call (ok_is_number (T := T) E) (hr.mono (by decide)) (by rfl) E.g_is_number E.F_is_number.kp (bd_is_number E) .nil pass0 (pa_cons (pv 0) (pa_cons pe_int pa_nil))) (pe_one (pe_cmpR op_le (pv 0) (pe_callB call_lenU (by rfl) E.len (by decide +kernel) (pa_cons (pe_glob (by rfl) E.g_HANDS_clocks E.r_HANDS_clocks) pa_nil)) (nomark _)))))), fun vs i ⟨v, e, y⟩ _ => by
    subst e
    exact rt_ret (ev_andV (ev_c2 (a := i) (b := (1 : Int)) (ev_var rfl y) ev_int trivial) fun _ => ev_cmp (ev_var rfl y) (ev_lek (ev_tc E.q_HANDS_clocks)))⟩
theorem sc_is_deed_id : FnScope ["value"] ["value"] (defScope s_is_deed_id) := ⟨rfl, rfl, rfl, by decide +kernel, rfl, by decide +kernel, by decide +kernel⟩
theorem bd_is_deed_id (E : Tp K mg w T base) : Binds K E.d_is_deed_id ["value"] [] := E.F_is_deed_id.bindsN fun _ _ _ _ _ _ us hl => match us, hl with | [_], _ => rfl
def IdOk (k : List Int) : Prop := ∃ h n, Hand h ∧ 1 ≤ n ∧ k = [h, n]
def sp_is_deed_id (K : Fg) (T : List (Addr × Str)) : Sp := PSp T (a1 (yk K)) IdOk yB fun _ => true
theorem hand_b {h : Int} (hh : Hand h) : (decide (h ≥ 1) && decide (h ≤ 4)) = true := by
  obtain ⟨a, b⟩ := hh
  rw [decide_eq_true a, decide_eq_true b]
  rfl
theorem ok_is_deed_id (E : Tp K mg w T base) : FnOk P w K mg base CX0 4 E.f_is_deed_id E.d_is_deed_id ["value"] (sp_is_deed_id K T) :=
  ok_rets E.F_is_deed_id sc_is_deed_id (fun _ _ _ h => len1 h) fun cdv Ar outer s H Ex hr => ⟨_, PSs.nox (pss_one (ps_ret (pe_and (pe_callB call_isi (by rfl) E.isinstance (by decide +kernel) (pa_cons (pv 0) (pa_cons (pe_bltn (v := .ty "tuple") (u := .type "tuple") (by rfl) E.tuple (by decide +kernel) rfl) pa_nil))) (pe_and (pe_cmpR (op_eqK (hu64 hr)) (pe_callB call_lenU (by rfl) E.len (by decide +kernel) (pa_cons (pv 0) pa_nil)) pe_int (nomark _)) (pe_and (pe_call (ok_is_hand (T := T) E) (hr.mono (by decide)) (by rfl) E.g_is_hand E.F_is_hand.kp (bd_is_hand E) .nil pass0 (pa_cons (pe_ix (ix_any (hu9 hr)) (pv 0) pe_int (fun _ _ => by rfl)) pa_nil)) (pe_one (pe_call (ok_is_number (T := T) E) (hr.mono (by decide)) (by rfl) E.g_is_number E.F_is_number.kp (bd_is_number E) .nil pass0 (pa_cons (pe_ix (ix_any (hu9 hr)) (pv 0) pe_int (fun _ _ => by rfl)) (pa_cons pe_int pa_nil))))))))), fun vs k ⟨v, e, y⟩ ⟨h, n, hh, hn, ek⟩ => by
    subst e ek
    have hv : Ev T (yk K) (tVar 0) (start ["value"] [v]) H [h, n] := ev_var rfl y
    refine rt_retE (ev_andV (ev_isi (ev_kD hv) (kt_tup_tuple _)) fun _ => ev_andV (ev_eqI (ev_lek hv) ev_int) fun _ => ev_andV (ev_c1 (a := h) (ev_suk hv ev_int rfl) trivial) fun _ => ev_c2 (a := n) (b := (1 : Int)) (ev_suk hv ev_int rfl) ev_int trivial) ?_
    show (true && (decide ((2 : Int) = 2) && ((decide (h ≥ 1) && decide (h ≤ 4)) && decide (n ≥ 1)))) = true
    rw [hand_b hh, decide_eq_true (show n ≥ 1 from hn)]
    rfl⟩
theorem sc_is_block_id : FnScope ["value"] ["value"] (defScope s_is_block_id) := ⟨rfl, rfl, rfl, by decide +kernel, rfl, by decide +kernel, by decide +kernel⟩
theorem bd_is_block_id (E : Tp K mg w T base) : Binds K E.d_is_block_id ["value"] [] := E.F_is_block_id.bindsN fun _ _ _ _ _ _ us hl => match us, hl with | [_], _ => rfl
def sp_is_block_id (K : Fg) (T : List (Addr × Str)) : Sp := PSp T (a1 (yk K)) (fun k => k = root ∨ IdOk k) yB fun _ => true
theorem ok_is_block_id (E : Tp K mg w T base) : FnOk P w K mg base CX0 5 E.f_is_block_id E.d_is_block_id ["value"] (sp_is_block_id K T) :=
  ok_rets E.F_is_block_id sc_is_block_id (fun _ _ _ h => len1 h) fun cdv Ar outer s H Ex hr => ⟨_, PSs.nox (pss_cons (ps_if (PW.pt (pw_or (pt_not (pt_val (pe_callB call_isi (by rfl) E.isinstance (by decide +kernel) (pa_cons (pv 0) (pa_cons (pe_bltn (v := .ty "tuple") (u := .type "tuple") (by rfl) E.tuple (by decide +kernel) rfl) pa_nil))))) (pw_or1 (pt_cmpR (op_neK (hu64 hr)) (pe_callB call_lenU (by rfl) E.len (by decide +kernel) (pa_cons (pv 0) pa_nil)) pe_int (nomark _))))) (pss_one (ps_ret pe_bl)) pss_nil) (pss_cons (ps_if (PW.pt (pw_and (pt_val (pe_call (ok_is_number (T := T) E) (hr.mono (by decide)) (by rfl) E.g_is_number E.F_is_number.kp (bd_is_number E) .nil pass0 (pa_cons (pe_ix (ix_any (hu9 hr)) (pv 0) pe_int (fun _ _ => by rfl)) (pa_cons pe_int pa_nil)))) (pw_and (pt_val (pe_call (ok_is_number (T := T) E) (hr.mono (by decide)) (by rfl) E.g_is_number E.F_is_number.kp (bd_is_number E) .nil pass0 (pa_cons (pe_ix (ix_any (hu9 hr)) (pv 0) pe_int (fun _ _ => by rfl)) (pa_cons pe_int pa_nil)))) (pw_and1 (pt_cmpR (op_eqK (hu64 hr)) (pv 0) (pe_glob (by rfl) E.g_ROOT_deeds E.r_ROOT_deeds) (nomark _)))))) (pss_one (ps_ret pe_bl)) pss_nil) (pss_one (ps_ret (pe_call (ok_is_deed_id (T := T) E) (hr.mono (by decide)) (by rfl) E.g_is_deed_id E.F_is_deed_id.kp (bd_is_deed_id E) .nil pass0 (pa_cons (pv 0) pa_nil)))))), fun vs k ⟨v, e, y⟩ hk => by
    subst e
    have hv : Ev T (yk K) (tVar 0) (start ["value"] [v]) H k := ev_var rfl y
    have e2 : ∃ a b, k = [a, b] := by
      rcases hk with rfl | ⟨h, n, _, _, rfl⟩
      · exact ⟨0, 0, rfl⟩
      · exact ⟨h, n, rfl⟩
    obtain ⟨a, b, rfl⟩ := e2
    refine rt_no (evT_eq (et_or (et_not (et_B (ev_isi (ev_kD hv) (kt_tup_tuple _)))) fun _ => et_test (ev_neI (ev_lek hv) ev_int)) rfl) ?_
    refine rt_ifs (et_and (et_B (ev_c2 (a := a) (b := (0 : Int)) (ev_suk hv ev_int rfl) ev_int trivial)) fun _ => et_and (et_B (ev_c2 (a := b) (b := (0 : Int)) (ev_suk hv ev_int rfl) ev_int trivial)) fun _ => et_test (ev_eqk hv (ev_tc E.q_ROOT_deeds))) (fun _ => rt_retS ev_bl) fun hc => ?_
    refine rt_ret (ev_c1 hv ?_)
    rcases hk with hk | hk
    · exfalso
      rw [hk] at hc
      unfold root at hk
      simp only [List.cons.injEq, and_true] at hk
      rw [hk.1, hk.2] at hc
      exact absurd hc (by decide)
    · exact hk⟩
theorem sc_is_sign_id : FnScope ["value"] ["value"] (defScope s_is_sign_id) := ⟨rfl, rfl, rfl, by decide +kernel, rfl, by decide +kernel, by decide +kernel⟩
theorem bd_is_sign_id (E : Tp K mg w T base) : Binds K E.d_is_sign_id ["value"] [] := E.F_is_sign_id.bindsN fun _ _ _ _ _ _ us hl => match us, hl with | [_], _ => rfl
def SgOk (k : List Int) : Prop := ∃ h n j, Hand h ∧ 1 ≤ n ∧ 0 ≤ j ∧ k = [h, n, j]
def sp_is_sign_id (K : Fg) (T : List (Addr × Str)) : Sp := PSp T (a1 (yk K)) SgOk yB fun _ => true
theorem ok_is_sign_id (E : Tp K mg w T base) : FnOk P w K mg base CX0 5 E.f_is_sign_id E.d_is_sign_id ["value"] (sp_is_sign_id K T) :=
  ok_rets E.F_is_sign_id sc_is_sign_id (fun _ _ _ h => len1 h) fun cdv Ar outer s H Ex hr => ⟨_, PSs.nox (pss_cons (ps_if (PW.pt (pw_or (pt_not (pt_val (pe_callB call_isi (by rfl) E.isinstance (by decide +kernel) (pa_cons (pv 0) (pa_cons (pe_bltn (v := .ty "tuple") (u := .type "tuple") (by rfl) E.tuple (by decide +kernel) rfl) pa_nil))))) (pw_or1 (pt_cmpR (op_neK (hu64 hr)) (pe_callB call_lenU (by rfl) E.len (by decide +kernel) (pa_cons (pv 0) pa_nil)) pe_int (nomark _))))) (pss_one (ps_ret pe_bl)) pss_nil) (pss_one (ps_ret (pe_and (pe_call (ok_is_deed_id (T := T) E) (hr.mono (by decide)) (by rfl) E.g_is_deed_id E.F_is_deed_id.kp (bd_is_deed_id E) .nil pass0 (pa_cons (pe_slice sl_tupA (pv 0) po_none (po_some pe_int)) pa_nil)) (pe_one (pe_call (ok_is_number (T := T) E) (hr.mono (by decide)) (by rfl) E.g_is_number E.F_is_number.kp (bd_is_number E) .nil pass0 (pa_cons (pe_ix (ix_any (hu9 hr)) (pv 0) pe_int (fun _ _ => by rfl)) (pa_cons pe_int pa_nil)))))))), fun vs k ⟨v, e, y⟩ ⟨h, n, j, hh, hn, hj, ek⟩ => by
    subst e ek
    have hv : Ev T (yk K) (tVar 0) (start ["value"] [v]) H [h, n, j] := ev_var rfl y
    refine rt_no (evT_eq (et_or (et_not (et_B (ev_isi (ev_kD hv) (kt_tup_tuple _)))) fun _ => et_test (ev_neI (ev_lek hv) ev_int)) rfl) ?_
    refine rt_retE (ev_andV (ev_c1 (ev_Tk (ev_slT (ev_kT hv) eo_none (eo_some ev_int))) ⟨h, n, hh, hn, rfl⟩) fun _ => ev_c2 (a := j) (b := (0 : Int)) (ev_suk hv ev_int rfl) ev_int trivial) ?_
    rw [decide_eq_true (show j ≥ 0 from hj)]
    rfl⟩
end
end K20
namespace K20
open PySem PySem.Spec PyProof.Rows L2
section
variable {P : Program} {w : World} {K : Fg} {mg : Str → Option Value} {base : Heap} {T : List (Addr × Str)}
/-- a text of these signs, one to eight -/
def TxtOk (z l : Str) : Prop := 1 ≤ z.length ∧ z.length ≤ 8 ∧ ∀ c ∈ z.cps.toList, c ∈ l.cps.toList
theorem sc_is_string_of : FnScope ["value", "signs", "sign"] ["value", "signs"] (defScope s_is_string_of) := ⟨rfl, rfl, rfl, by decide +kernel, rfl, by decide +kernel, by decide +kernel⟩
theorem bd_is_string_of (E : Tp K mg w T base) : Binds K E.d_is_string_of ["value", "signs"] [] := E.F_is_string_of.bindsN fun _ _ _ _ _ _ us hl => match us, hl with | [_, _], _ => rfl
def sp_is_string_of (T : List (Addr × Str)) : Sp := PSp T (a2 yS yS) (fun p => TxtOk p.1 p.2) yB fun _ => true
theorem ok_is_string_of (E : Tp K mg w T base) : FnOk P w K mg base CX0 1 E.f_is_string_of E.d_is_string_of ["value", "signs"] (sp_is_string_of T) :=
  ok_rets E.F_is_string_of sc_is_string_of (fun _ _ _ h => len2 h) fun cdv Ar outer s H Ex hr => ⟨_, PSs.nox (pss_cons (ps_if (PW.pt (pw_or (pt_not (pt_val (pe_callB call_isi (by rfl) E.isinstance (by decide +kernel) (pa_cons (pv 0) (pa_cons (pe_bltn (v := .ty "str") (u := .type "str") (by rfl) E.str (by decide +kernel) rfl) pa_nil))))) (pw_or1 (pt_not (pt_chain op_le op_le pe_int (pe_callB call_lenU (by rfl) E.len (by decide +kernel) (pa_cons (pv 0) pa_nil)) (pe_glob (by rfl) E.g_MOST_SIGNS E.r_MOST_SIGNS)))))) (pss_one (ps_ret pe_bl)) pss_nil) (pss_one (ps_ret (pe_callB (cr_all rfl) (by rfl) E.all (by decide +kernel) (pa_cons (pe_lc (own := [("sign", 2)]) (g := gName 2) (tt := tYes) rfl sc_is_string_of.nd (pi_str (pv 0)) (blkOk_by (own := [("sign", 2)]) (N := ["value", "signs", "sign"]) (sc := defScope s_is_string_of) (by decide +kernel)) (fun _ _ _ _ _ => (pg_name (i := 2) sc_is_string_of.nd rfl (.inl rfl))) (fun _ _ _ _ _ => pts_nil) (fun _ _ _ _ _ => (pe_cmpR (op_inUK K P w (hu9 hr) (by rfl) (by rfl) (by rfl)) (pv 2) (pv 1) (by rfl)))) pa_nil))))), fun vs p ⟨v, u, e, y, z⟩ ⟨h1, h8, hc⟩ => by
    subst e
    obtain ⟨x, l⟩ := p
    have hv : Ev T yS (tVar 0) (start ["value", "signs", "sign"] [v, u]) H x := ev_var rfl y
    have hx8 : x.length ≤ sizeLine := Nat.le_trans h8 (by decide)
    refine rt_no (evT_eq (et_or (et_not (et_B (ev_isi (ev_SD hv) (kt_text_str _)))) fun _ => et_not (et_test (ev_chn ev_int (ev_leS hv hx8) ev_int))) ?_) ?_
    · have a1 : decide ((1 : Int) ≤ (x.length : Int)) = true := decide_eq_true (by have : 1 ≤ x.length := h1; omega)
      have a2 : decide ((x.length : Int) ≤ (8 : Int)) = true := decide_eq_true (by have : x.length ≤ 8 := h8; omega)
      show (!true || !(decide ((1 : Int) ≤ (x.length : Int)) && decide ((x.length : Int) ≤ (8 : Int)))) = false
      rw [a1, a2]
      rfl
    · refine rt_retE (ev_all (ev_lm (fun c : Str => true) (evi_str hv) (fun c hc' t H1 r1 z1 => ?_) (fun _ => rfl) ?_)) ?_
      · obtain ⟨n, hn, rfl⟩ := List.mem_map.mp hc'
        refine ev_eq (ev_inT (K := K) (P := P) (w := w) (n := false) (z := l) (ev_var rfl z1) (ev_var rfl z)) ?_
        exact decide_eq_true (hc n hn)
      · rw [List.length_map, Array.length_toList]
        exact hx8
      · rw [List.all_map]
        exact List.all_eq_true.mpr fun _ _ => rfl⟩
theorem sc_is_text : FnScope ["value"] ["value"] (defScope s_is_text) := ⟨rfl, rfl, rfl, by decide +kernel, rfl, by decide +kernel, by decide +kernel⟩
theorem bd_is_text (E : Tp K mg w T base) : Binds K E.d_is_text ["value"] [] := E.F_is_text.bindsN fun _ _ _ _ _ _ us hl => match us, hl with | [_], _ => rfl
def sp_is_text (T : List (Addr × Str)) : Sp := PSp T (a1 yS) (fun x => TxtOk x "abcdefghijklmnopqrstuvwxyz ") yB fun _ => true
theorem ok_is_text (E : Tp K mg w T base) : FnOk P w K mg base CX0 2 E.f_is_text E.d_is_text ["value"] (sp_is_text T) :=
  ok_rets E.F_is_text sc_is_text (fun _ _ _ h => len1 h) fun cdv Ar outer s H Ex hr => ⟨_, PSs.nox (pss_one (ps_ret (pe_call (ok_is_string_of (T := T) E) (hr.mono (by decide)) (by rfl) E.g_is_string_of E.F_is_string_of.kp (bd_is_string_of E) .nil pass0 (pa_cons (pv 0) (pa_cons (pe_glob (by rfl) E.g_TEXT_SIGNS E.r_TEXT_SIGNS) pa_nil))))), fun vs x ⟨v, e, y⟩ h => by
    subst e
    exact rt_ret (ev_c2 (a := x) (b := ("abcdefghijklmnopqrstuvwxyz " : Str)) (ev_var rfl y) ev_str h)⟩
/-- a part of an act, by its kind -/
def PartOk (k : Str) (d : D) : Prop := (k = "b" ∧ ∃ c, (c = root ∨ IdOk c) ∧ d = tI c) ∨ (k = "B" ∧ d = .none) ∨ (k = "p" ∧ (d = .none ∨ ∃ c, SgOk c ∧ d = tI c)) ∨ (k = "t" ∧ ∃ x, TxtOk x "abcdefghijklmnopqrstuvwxyz " ∧ d = .text x)
theorem sc_is_part : FnScope ["kind", "value"] ["kind", "value"] (defScope s_is_part) := ⟨rfl, rfl, rfl, by decide +kernel, rfl, by decide +kernel, by decide +kernel⟩
theorem bd_is_part (E : Tp K mg w T base) : Binds K E.d_is_part ["kind", "value"] [] := E.F_is_part.bindsN fun _ _ _ _ _ _ us hl => match us, hl with | [_, _], _ => rfl
def sp_is_part (K : Fg) (T : List (Addr × Str)) : Sp := PSp T (a2 yS (yD K)) (fun p => PartOk p.1 p.2) yB fun _ => true
theorem ok_is_part (E : Tp K mg w T base) : FnOk P w K mg base CX0 6 E.f_is_part E.d_is_part ["kind", "value"] (sp_is_part K T) :=
  ok_rets E.F_is_part sc_is_part (fun _ _ _ h => len2 h) fun cdv Ar outer s H Ex hr => ⟨_, PSs.nox (pss_cons (ps_if (pt_cmpR (op_eqK (hu64 hr)) (pv 0) pe_str (nomark _)) (pss_one (ps_ret (pe_call (ok_is_block_id (T := T) E) (hr.mono (by decide)) (by rfl) E.g_is_block_id E.F_is_block_id.kp (bd_is_block_id E) .nil pass0 (pa_cons (pv 1) pa_nil)))) pss_nil) (pss_cons (ps_if (pt_cmpR (op_eqK (hu64 hr)) (pv 0) pe_str (nomark _)) (pss_one (ps_ret (pe_or (pe_cmp (pc_isN (pv 1)) rfl) (pe_one (pe_call (ok_is_block_id (T := T) E) (hr.mono (by decide)) (by rfl) E.g_is_block_id E.F_is_block_id.kp (bd_is_block_id E) .nil pass0 (pa_cons (pv 1) pa_nil)))))) pss_nil) (pss_cons (ps_if (pt_cmpR (op_eqK (hu64 hr)) (pv 0) pe_str (nomark _)) (pss_one (ps_ret (pe_or (pe_cmp (pc_isN (pv 1)) rfl) (pe_one (pe_call (ok_is_sign_id (T := T) E) (hr.mono (by decide)) (by rfl) E.g_is_sign_id E.F_is_sign_id.kp (bd_is_sign_id E) .nil pass0 (pa_cons (pv 1) pa_nil)))))) pss_nil) (pss_cons (ps_if (pt_cmpR (op_eqK (hu64 hr)) (pv 0) pe_str (nomark _)) (pss_one ps_never) pss_nil) (pss_cons (ps_if (pt_cmpR (op_eqK (hu64 hr)) (pv 0) pe_str (nomark _)) (pss_one ps_never) pss_nil) (pss_cons (ps_if (pt_cmpR (op_eqK (hu64 hr)) (pv 0) pe_str (nomark _)) (pss_one ps_never) pss_nil) (pss_cons (ps_if (pt_cmpR (op_eqK (hu64 hr)) (pv 0) pe_str (nomark _)) (pss_one ps_never) pss_nil) (pss_cons (ps_if (pt_cmpR (op_eqK (hu64 hr)) (pv 0) pe_str (nomark _)) (pss_one (ps_ret (pe_call (ok_is_text (T := T) E) (hr.mono (by decide)) (by rfl) E.g_is_text E.F_is_text.kp (bd_is_text E) .nil pass0 (pa_cons (pv 1) pa_nil)))) pss_nil) (pss_cons (ps_if (pt_cmpR (op_eqK (hu64 hr)) (pv 0) pe_str (nomark _)) (pss_one ps_never) pss_nil) (pss_one ps_never)))))))))), fun vs p ⟨v, u, e, y, z⟩ hp => by
    subst e
    obtain ⟨k, d⟩ := p
    have hk : Ev T yS (tVar 0) (start ["kind", "value"] [v, u]) H k := ev_var rfl y
    have hd : Ev T (yD K) (tVar 1) (start ["kind", "value"] [v, u]) H d := ev_var rfl z
    have ok1 : okD (.text k) = true := by
      rcases hp with ⟨e, _⟩ | ⟨e, _⟩ | ⟨e, _⟩ | ⟨e, _⟩ <;> (have e : k = _ := e; rw [e]; decide +kernel)
    have no : ∀ (l : Str), okD (.text l) = true → decide (k = l) = false → EvT T (tTest (tOp (rEqK K) (tVar 0) (tC (.str l)))) (start ["kind", "value"] [v, u]) H false := fun l hl hn => evT_eq (et_test (ev_eqT hk ev_str ok1 hl)) hn
    have yes : ∀ (l : Str), okD (.text l) = true → decide (k = l) = true → EvT T (tTest (tOp (rEqK K) (tVar 0) (tC (.str l)))) (start ["kind", "value"] [v, u]) H true := fun l hl hn => evT_eq (et_test (ev_eqT hk ev_str ok1 hl)) hn
    have isn : d = .none → Ev T yB (tIsN (tVar 1)) (start ["kind", "value"] [v, u]) H true := fun e => ev_eq (ev_isN hd) (by rw [e]; rfl)
    rcases hp with ⟨e, c, hc, ed⟩ | ⟨e, ed⟩ | ⟨e, hc⟩ | ⟨e, x, hx, ed⟩
    · have e : k = "b" := e
      have ed : d = tI c := ed
      refine rt_yes (yes _ (by decide +kernel) (by rw [e]; decide +kernel)) (rt_retS ?_)
      rw [ed] at hd
      exact ev_c1 (a := c) hd hc
    · have e : k = "B" := e
      refine rt_no (no _ (by decide +kernel) (by rw [e]; decide +kernel)) ?_
      refine rt_yes (yes _ (by decide +kernel) (by rw [e]; decide +kernel)) (rt_retS ?_)
      exact ev_eq (ev_orV (b := true) (isn ed) fun h => by cases h) rfl
    · have e : k = "p" := e
      refine rt_no (no _ (by decide +kernel) (by rw [e]; decide +kernel)) ?_
      refine rt_no (no _ (by decide +kernel) (by rw [e]; decide +kernel)) ?_
      refine rt_yes (yes _ (by decide +kernel) (by rw [e]; decide +kernel)) (rt_retS ?_)
      rcases hc with ed | ⟨c, hc, ed⟩
      · exact ev_eq (ev_orV (b := true) (isn ed) fun h => by cases h) rfl
      · have ed : d = tI c := ed
        rw [ed] at hd
        exact ev_eq (ev_orV (ev_isN hd) fun _ => ev_c1 (a := c) hd hc) rfl
    · have e : k = "t" := e
      have ed : d = .text x := ed
      refine rt_no (no _ (by decide +kernel) (by rw [e]; decide +kernel)) ?_
      refine rt_no (no _ (by decide +kernel) (by rw [e]; decide +kernel)) ?_
      refine rt_no (no _ (by decide +kernel) (by rw [e]; decide +kernel)) ?_
      refine rt_no (no _ (by decide +kernel) (by rw [e]; decide +kernel)) ?_
      refine rt_no (no _ (by decide +kernel) (by rw [e]; decide +kernel)) ?_
      refine rt_no (no _ (by decide +kernel) (by rw [e]; decide +kernel)) ?_
      refine rt_no (no _ (by decide +kernel) (by rw [e]; decide +kernel)) ?_
      refine rt_yes (yes _ (by decide +kernel) (by rw [e]; decide +kernel)) (rt_retS ?_)
      rw [ed] at hd
      exact ev_c1 (a := x) (ev_DS hd) hx⟩
/-- an act that may stand in a deed -/
def ActOk : Act → Prop
  | .wr b l r m => (b = root ∨ IdOk b) ∧ (∀ s, l = some s → SgOk s) ∧ (∀ s, r = some s → SgOk s) ∧ 1 ≤ m ∧ m ≤ 3
  | .bk b => b = root ∨ IdOk b
abbrev yact (K : Fg) : Hp → V → Act → Prop := fun H v a => Dt K H v a.d
instance {K : Fg} : Imm (yact K) := ⟨fun r h => Imm.imm (Y := yD K) r h⟩
def kindsOf : Act → Str
  | .wr .. => "bppt"
  | .bk _ => "bB"
def partsOf : Act → List D
  | .wr b l r m => [tI b, oD l, oD r, .text (pre m)]
  | .bk b => [tI b, .none]
theorem kinds_small (a : Act) : (kindsOf a).length ≤ sizeLine := by
  cases a with
  | wr b l r m => exact (by decide +kernel : ("bppt" : Str).length ≤ sizeLine)
  | bk b => exact (by decide +kernel : ("bB" : Str).length ≤ sizeLine)
theorem kinds_ascii (a : Act) : (kindsOf a).cps.all (· < 128) = true := by
  cases a with
  | wr b l r m => exact (by decide +kernel : ("bppt" : Str).cps.all (· < 128) = true)
  | bk b => exact (by decide +kernel : ("bB" : Str).cps.all (· < 128) = true)
theorem act_parts (a : Act) : a.d = .tup (.text a.word :: partsOf a) := by cases a <;> rfl
theorem pre_ok {m : Nat} (h1 : 1 ≤ m) (h3 : m ≤ 3) : TxtOk (pre m) "abcdefghijklmnopqrstuvwxyz " := by
  have e : m = 1 ∨ m = 2 ∨ m = 3 := by omega
  unfold TxtOk
  rcases e with rfl | rfl | rfl <;> decide +kernel
theorem part_opt {o : Option (List Int)} (h : ∀ s, o = some s → SgOk s) : PartOk "p" (oD o) := by
  cases o with
  | none => exact .inr (.inr (.inl ⟨rfl, .inl rfl⟩))
  | some s => exact .inr (.inr (.inl ⟨rfl, .inr ⟨s, h s rfl, rfl⟩⟩))
theorem parts_ok {a : Act} (h : ActOk a) : ∀ q ∈ ((kindsOf a).cps.toList.map sign).zip (partsOf a), PartOk q.1 q.2 := by
  cases a with
  | wr b l r m =>
    obtain ⟨h1, h2, h3, h4, h5⟩ := h
    have e : ((kindsOf (.wr b l r m)).cps.toList.map sign).zip (partsOf (.wr b l r m)) = [(("b" : Str), tI b), (("p" : Str), oD l), (("p" : Str), oD r), (("t" : Str), .text (pre m))] := rfl
    rw [e]
    intro q hq
    simp only [List.mem_cons, List.not_mem_nil, or_false] at hq
    rcases hq with rfl | rfl | rfl | rfl
    · exact .inl ⟨rfl, b, h1, rfl⟩
    · exact part_opt h2
    · exact part_opt h3
    · exact .inr (.inr (.inr ⟨rfl, _, pre_ok h4 h5, rfl⟩))
  | bk b =>
    have e : ((kindsOf (.bk b)).cps.toList.map sign).zip (partsOf (.bk b)) = [(("b" : Str), tI b), (("B" : Str), .none)] := rfl
    rw [e]
    intro q hq
    simp only [List.mem_cons, List.not_mem_nil, or_false] at hq
    rcases hq with rfl | rfl
    · exact .inl ⟨rfl, b, h, rfl⟩
    · exact .inr (.inl ⟨rfl, rfl⟩)
theorem sc_is_act : FnScope ["value", "kinds", "kind", "part"] ["value"] (defScope s_is_act) := ⟨rfl, rfl, rfl, by decide +kernel, rfl, by decide +kernel, by decide +kernel⟩
theorem bd_is_act (E : Tp K mg w T base) : Binds K E.d_is_act ["value"] [] := E.F_is_act.bindsN fun _ _ _ _ _ _ us hl => match us, hl with | [_], _ => rfl
def sp_is_act (K : Fg) (T : List (Addr × Str)) : Sp := PSp T (a1 (yact K)) ActOk yB fun _ => true
theorem ok_is_act (E : Tp K mg w T base) : FnOk P w K mg base CX0 7 E.f_is_act E.d_is_act ["value"] (sp_is_act K T) := by
  obtain ⟨es, nn, DP⟩ := E.D_PARTS
  refine ok_rets E.F_is_act sc_is_act (fun _ _ _ h => len1 h) fun cdv Ar outer s H Ex hr => ⟨_, PSs.nox (pss_cons (ps_if (PW.pt (pw_or (pt_not (pt_val (pe_callB call_isi (by rfl) E.isinstance (by decide +kernel) (pa_cons (pv 0) (pa_cons (pe_bltn (v := .ty "tuple") (u := .type "tuple") (by rfl) E.tuple (by decide +kernel) rfl) pa_nil))))) (pw_or (pt_cmpR op_lt (pe_callB call_lenU (by rfl) E.len (by decide +kernel) (pa_cons (pv 0) pa_nil)) pe_int (nomark _)) (pw_or1 (pt_not (pt_val (pe_callB call_isi (by rfl) E.isinstance (by decide +kernel) (pa_cons (pe_ix (ix_any (hu9 hr)) (pv 0) pe_int (fun _ _ => by rfl)) (pa_cons (pe_bltn (v := .ty "str") (u := .type "str") (by rfl) E.str (by decide +kernel) rfl) pa_nil))))))))) (pss_one (ps_ret pe_bl)) pss_nil) (pss_cons (ps_if (pt_cmpR (op_notIn_kd DP) (pe_ix (ix_any (hu9 hr)) (pv 0) pe_int (fun _ _ => rfl)) (pe_glob (by rfl) E.g_PARTS E.r_PARTS) (by rfl)) (pss_one (ps_ret pe_bl)) pss_nil) (pss_cons (ps_set (i := 1) sc_is_act.nd rfl (.inl rfl) (pe_ix ix_kdict (pe_glob (by rfl) E.g_PARTS E.r_PARTS) (pe_ix (ix_any (hu9 hr)) (pv 0) pe_int (fun _ _ => rfl)) (fun _ _ => rfl))) (pss_cons (ps_if (pt_cmpR (op_neK (hu64 hr)) (pe_callB call_lenU (by rfl) E.len (by decide +kernel) (pa_cons (pv 0) pa_nil)) (pe_op op_plus (pe_callB call_lenU (by rfl) E.len (by decide +kernel) (pa_cons (pv 1) pa_nil)) pe_int) (nomark _)) (pss_one (ps_ret pe_bl)) pss_nil) (pss_one (ps_ret (pe_callB (cr_all rfl) (by rfl) E.all (by decide +kernel) (pa_cons (pe_lc (own := [("kind", 2), ("part", 3)]) (g := gTup K 2 (gCons (gName 2) (gCons (gName 3) gNil))) (tt := tYes) rfl sc_is_act.nd (pi_zipS (by rfl) E.zip (pa_cons (pv 1) (pa_cons (pe_slice sl_tupA (pv 0) (po_some pe_int) po_none) pa_nil))) (blkOk_by (own := [("kind", 2), ("part", 3)]) (N := ["value", "kinds", "kind", "part"]) (sc := defScope s_is_act) (by decide +kernel)) (fun _ _ _ _ _ => (pg_tup rfl (pgs_cons (pg_name (i := 2) sc_is_act.nd rfl (.inl rfl)) (pgs_cons (pg_name (i := 3) sc_is_act.nd rfl (.inl rfl)) pgs_nil)))) (fun _ _ _ _ _ => pts_nil) (fun _ _ _ _ _ => (pe_call (ok_is_part (T := T) E) (hr.mono (by decide)) (by rfl) E.g_is_part E.F_is_part.kp (bd_is_part E) .nil pass0 (pa_cons (pv 2) (pa_cons (pv 3) pa_nil))))) pa_nil)))))))), fun vs a ⟨v, e, y⟩ ha => ?_⟩
  subst e
  have hv : Ev T (yact K) (tVar 0) (start ["value", "kinds", "kind", "part"] [v]) H a := ev_var rfl y
  have hd : Ev T (yD K) (tVar 0) (start ["value", "kinds", "kind", "part"] [v]) H (.tup (.text a.word :: partsOf a)) := by
    have z : Ev T (yD K) (tVar 0) (start ["value", "kinds", "kind", "part"] [v]) H a.d := hv
    rw [act_parts] at z
    exact z
  have hw : ∀ {tb : TE}, Ev T yI tb (start ["value", "kinds", "kind", "part"] [v]) H 0 → Ev T (yD K) (tOp (rSub K P w) (tVar 0) tb) (start ["value", "kinds", "kind", "part"] [v]) H (.text a.word) := fun hb => ev_suD hd hb (atI_nat (j := 0) rfl)
  have in_ : ∃ u, PySem.W.nsIn K E.a_PARTS a.word = some (some u) ∧ RelV (.str (kindsOf a)) u := by
    cases a with
    | wr b l r m => exact E.v_write
    | bk b => exact E.v_block
  obtain ⟨u, hu1, hu2⟩ := in_
  have kd : KDct K w E.a_PARTS a.word (.str (kindsOf a)) := ⟨es, nn, u, DP.at_, DP.lit, hu1, hu2⟩
  have hP : ∀ σ : L2.St, Ev T yV (tC (.ref E.a_PARTS)) σ H (.ref E.a_PARTS) := fun σ => ev_c fun _ => rfl
  have hln : ((partsOf a).length : Int) = ((kindsOf a).length : Int) := by cases a <;> rfl
  refine rt_no (evT_eq (et_or (et_not (et_B (ev_isi (hd) (kt_tup_tuple _)))) fun _ => et_or (et_test (ev_cmp (ev_leD hd) ev_int)) fun _ => et_not (et_B (ev_isi (hw ev_int) (kt_text_str _)))) ?_) ?_
  · have z : decide (((NestedKey.text a.word :: partsOf a).length : Int) < 1) = false := decide_eq_false (by rw [List.length_cons]; omega)
    show (!true || (decide (((NestedKey.text a.word :: partsOf a).length : Int) < 1) || !true)) = false
    rw [z]
    rfl
  refine rt_no (et_test (ev_op (ev_DS (hw ev_int)) (hP _) fun H1 x y' r1 e1 e2 Q q => ⟨a.word, some u, e1, e2, hu1, q _ H1 (Rp.refl _) rfl⟩)) ?_
  refine rt_set (Y1 := yS) (a := kindsOf a) (ev_op (hP _) (ev_DS (hw ev_int)) fun H1 x y' r1 e1 e2 Q q => ⟨E.a_PARTS, a.word, .str (kindsOf a), e1, e2, kd, q _ H1 (Rp.refl _) rfl⟩) fun k H1 r1 hk => ?_
  have hv1 : Ev T (yact K) (tVar 0) ((start ["value", "kinds", "kind", "part"] [v]).set 1 (some k)) H1 a := ev_var rfl (Mono.mono r1 y)
  have hd1 : Ev T (yD K) (tVar 0) ((start ["value", "kinds", "kind", "part"] [v]).set 1 (some k)) H1 (.tup (.text a.word :: partsOf a)) := by
    have z : Ev T (yD K) (tVar 0) ((start ["value", "kinds", "kind", "part"] [v]).set 1 (some k)) H1 a.d := hv1
    rw [act_parts] at z
    exact z
  have hk1 : Ev T yS (tVar 1) ((start ["value", "kinds", "kind", "part"] [v]).set 1 (some k)) H1 (kindsOf a) := ev_var rfl hk
  have hks := kinds_small a
  refine rt_no (evT_eq (et_test (ev_neI (ev_leD hd1) (ev_pl (ev_leS hk1 hks) ev_int))) ?_) ?_
  · have z : (((NestedKey.text a.word :: partsOf a).length : Int) = ((kindsOf a).length : Int) + 1) := by rw [List.length_cons]; omega
    rw [decide_eq_true z]
    rfl
  · refine rt_retE (ev_all (ev_lm2 (fun _ => true) (evi_zipS hk1 (ev_slT (ev_DT hd1) (eo_some ev_int) eo_none) (kinds_ascii a) ?_) (fun q hq x x' H2 r2 z1 z2 => ev_c2 (ev_var rfl z1) (ev_var rfl z2) ?_) (fun _ _ => rfl) ?_)) ?_
    · cases a <;> rfl
    · have e : cutL (NestedKey.text a.word :: partsOf a) (some 1) none = partsOf a := by cases a <;> rfl
      rw [e] at hq
      exact parts_ok ha q hq
    · have : ((kindsOf a).cps.toList.map sign).length ≤ sizeLine := by
        rw [List.length_map, Array.length_toList]
        exact hks
      rw [List.length_zip]
      omega
    · rw [List.all_map]
      exact List.all_eq_true.mpr fun _ _ => rfl
/-! ### is_deed -/
theorem sc_is_deed : FnScope ["value", "hand", "number", "seen", "act"] ["value"] (defScope s_is_deed) := ⟨rfl, rfl, rfl, by decide +kernel, rfl, by decide +kernel, by decide +kernel⟩
theorem bd_is_deed (E : Tp K mg w T base) : Binds K E.d_is_deed ["value"] [] := E.F_is_deed.bindsN fun _ _ _ _ _ _ us hl => match us, hl with | [_], _ => rfl
def DOk (x : Deed) : Prop := DeedOk x ∧ ActOk x.act
def sp_is_deed (K : Fg) (T : List (Addr × Str)) : Sp := PSp T (a1 (ydd K)) DOk yB fun _ => true
/-- hand, number, seen, act = value -/
theorem rt_un4 {ε : Type} {Y : Hp → V → ε → Prop} {H : Hp} {σ : L2.St} {te : TE} {u : TS} {e : ε} {i1 i2 i3 i4 : Nat} {d1 d2 d3 d4 : D} (h : Ev T (yD K) te σ H (.tup [d1, d2, d3, d4]))
    (k : ∀ v1 v2 v3 v4 H1, Rp T H H1 → Dt K H1 v1 d1 → Dt K H1 v2 d2 → Dt K H1 v3 d3 → Dt K H1 v4 d4 → Rets T Y u ((((σ.set i1 (some v1)).set i2 (some v2)).set i3 (some v3)).set i4 (some v4)) H1 e) :
    Rets T Y (tSeq (tAsg te (gTup K 4 (gCons (gName i1) (gCons (gName i2) (gCons (gName i3) (gCons (gName i4) gNil)))))) u) σ H e := fun H1 r1 D q => h H1 r1 _ fun v H2 r2 y => by
  obtain ⟨a, xs, ea, s, l⟩ := Dt.tup_inv y
  cases l with
  | cons l1 l => cases l with
    | cons l2 l => cases l with
      | cons l3 l => cases l with
        | cons l4 l =>
          cases l
          exact ⟨a, _, ea, s, rfl, _, _, rfl, _, _, rfl, _, _, rfl, _, _, rfl, rfl, k _ _ _ _ H2 (r1.trans r2) l1 l2 l3 l4 H2 (Rp.refl _) D fun w H3 r3 z => q w H3 (r2.trans r3) z⟩
theorem ok_is_deed (E : Tp K mg w T base) : FnOk P w K mg base CX0 8 E.f_is_deed E.d_is_deed ["value"] (sp_is_deed K T) :=
  ok_rets E.F_is_deed sc_is_deed (fun _ _ _ h => len1 h) fun cdv Ar outer s H Ex hr => ⟨_, PSs.nox (pss_cons (ps_if (PW.pt (pw_or (pt_not (pt_val (pe_callB call_isi (by rfl) E.isinstance (by decide +kernel) (pa_cons (pv 0) (pa_cons (pe_bltn (v := .ty "tuple") (u := .type "tuple") (by rfl) E.tuple (by decide +kernel) rfl) pa_nil))))) (pw_or1 (pt_cmpR (op_neK (hu64 hr)) (pe_callB call_lenU (by rfl) E.len (by decide +kernel) (pa_cons (pv 0) pa_nil)) pe_int (nomark _))))) (pss_one (ps_ret pe_bl)) pss_nil) (pss_cons (ps_asg (pv 0) (pg_tup rfl (pgs_cons (pg_name (i := 1) sc_is_deed.nd rfl (.inl rfl)) (pgs_cons (pg_name (i := 2) sc_is_deed.nd rfl (.inl rfl)) (pgs_cons (pg_name (i := 3) sc_is_deed.nd rfl (.inl rfl)) (pgs_cons (pg_name (i := 4) sc_is_deed.nd rfl (.inl rfl)) pgs_nil)))))) (pss_cons (ps_if (PW.pt (pw_or (pt_not (pt_val (pe_call (ok_is_hand (T := T) E) (hr.mono (by decide)) (by rfl) E.g_is_hand E.F_is_hand.kp (bd_is_hand E) .nil pass0 (pa_cons (pv 1) pa_nil)))) (pw_or (pt_not (pt_val (pe_call (ok_is_number (T := T) E) (hr.mono (by decide)) (by rfl) E.g_is_number E.F_is_number.kp (bd_is_number E) .nil pass0 (pa_cons (pv 2) (pa_cons pe_int pa_nil))))) (pw_or1 (pt_not (pt_val (pe_call (ok_is_clock (T := T) E) (hr.mono (by decide)) (by rfl) E.g_is_clock E.F_is_clock.kp (bd_is_clock E) .nil pass0 (pa_cons (pv 3) pa_nil)))))))) (pss_one (ps_ret pe_bl)) pss_nil) (pss_one (ps_ret (pe_and (pe_cmpR (op_eqK (hu64 hr)) (pe_ix (ix_any (hu9 hr)) (pv 3) (pe_op op_sub (pv 1) pe_int) (fun _ _ => by rfl)) (pe_op op_sub (pv 2) pe_int) (nomark _)) (pe_one (pe_call (ok_is_act (T := T) E) (hr.mono (by decide)) (by rfl) E.g_is_act E.F_is_act.kp (bd_is_act E) .nil pass0 (pa_cons (pv 4) pa_nil))))))))), fun vs x ⟨v, e, y⟩ ⟨hx, ha⟩ => by
    subst e
    have hv : Ev T (ydd K) (tVar 0) (start ["value", "hand", "number", "seen", "act"] [v]) H x := ev_var rfl y
    refine rt_no (evT_eq (et_or (et_not (et_B (ev_isi (d := x.d) hv (kt_tup_tuple _)))) fun _ => et_test (ev_neI (ev_leD (ds := [.num x.h, .num x.n, tI x.seen, x.act.d]) hv) ev_int)) rfl) ?_
    refine rt_un4 (d1 := .num x.h) (d2 := .num x.n) (d3 := tI x.seen) (d4 := x.act.d) hv fun v1 v2 v3 v4 H1 r1 y1 y2 y3 y4 => ?_
    generalize hσ : ((((start ["value", "hand", "number", "seen", "act"] [v]).set 1 (some v1)).set 2 (some v2)).set 3 (some v3)).set 4 (some v4) = σ
    have e1 : Ev T yI (tVar 1) σ H1 x.h := ev_var (by rw [← hσ]; rfl) y1.num_inv
    have e2 : Ev T yI (tVar 2) σ H1 x.n := ev_var (by rw [← hσ]; rfl) y2.num_inv
    have e3 : Ev T (yk K) (tVar 3) σ H1 x.seen := ev_var (by rw [← hσ]; rfl) y3
    have e4 : Ev T (yact K) (tVar 4) σ H1 x.act := ev_var (by rw [← hσ]; rfl) y4
    refine rt_no (evT_eq (et_or (et_not (et_B (ev_c1 (a := x.h) e1 trivial))) fun _ => et_or (et_not (et_B (ev_c2 (a := x.n) (b := (1 : Int)) e2 ev_int trivial))) fun _ => et_not (et_B (ev_c1 (a := x.seen) e3 ⟨hx.len, hx.pos⟩))) ?_) ?_
    · show (!(decide (x.h ≥ 1) && decide (x.h ≤ 4)) || (!decide (x.n ≥ 1) || !true)) = false
      rw [hand_b hx.hand, decide_eq_true (show x.n ≥ 1 from hx.n1)]
      rfl
    · refine rt_retE (ev_andV (ev_eqI (ev_suk e3 (ev_sub e1 ev_int) (ck_at hx.len hx.hand)) (ev_sub e2 ev_int)) fun _ => ev_c1 (a := x.act) e4 ha) ?_
      rw [decide_eq_true hx.own]
      rfl⟩
end
end K20
namespace K20
open PySem PySem.Spec PyProof.Rows L2
section
variable {P : Program} {w : World} {K : Fg} {mg : Str → Option Value} {base : Heap} {T : List (Addr × Str)}
/-! ### greatest_time -/
theorem sc_Deeds_greatest_time : FnScope ["self", "seen", "times", "hand"] ["self", "seen"] (defScope s_Deeds_greatest_time) := ⟨rfl, rfl, rfl, by decide +kernel, rfl, by decide +kernel, by decide +kernel⟩
theorem bd_Deeds_greatest_time (E : Tp K mg w T base) : Binds K E.d_Deeds_greatest_time ["self", "seen"] [] := E.F_Deeds_greatest_time.bindsN fun _ _ _ _ _ _ us hl => match us, hl with | [_, _], _ => rfl
/-- the times are there -/
def sp_gt (E : Tp K mg w T base) (P : Program) : Sp := fun vs H Q _ => ∃ (p dx d : Addr) (fs : List (Str × V)) (v : V) (c : List Int) (ms : List (D × Int)), vs = [.ref p, v] ∧ H p = some (.ins E.C_Deeds dx fs) ∧ fs.lookup ("time" : Str) = some (.ref d) ∧ yM K P w yI H (.ref d) ms ∧ Dt K H v (tI c) ∧ c.length = 4 ∧
  (∀ h, Hand h → 0 < ck c h → ∃ t, lu ms (tI [h, ck c h]) = some t) ∧ ∀ m H', Rp T H H' → 0 ≤ m → (∀ h t, Hand h → 0 < ck c h → lu ms (tI [h, ck c h]) = some t → t ≤ m) → Q (.int m) H'
theorem ok_Deeds_greatest_time (E : Tp K mg w T base) : FnOk P w K mg base CX0 1 E.f_Deeds_greatest_time E.d_Deeds_greatest_time ["self", "seen"] (sp_gt E P) := by
  refine E.F_Deeds_greatest_time.ok sc_Deeds_greatest_time (fun vs H Q Ex h => ?_) (fun cdv Ar outer s H vs Q Ex hr h => ⟨_, PSs.nox (pss_cons (ps_set (i := 2) sc_Deeds_greatest_time.nd rfl (.inl rfl) (pe_lst (pa_cons pe_int pa_nil))) (pss_cons (ps_for PassesOwn.never rfl (pi_tup (pe_glob (by rfl) E.g_HANDS_clocks E.r_HANDS_clocks)) (pg_name (i := 3) sc_Deeds_greatest_time.nd rfl (.inl rfl)) (pss_one (ps_if (pt_cmpR op_gt (pe_ix (ix_any (hu9 hr)) (pv 1) (pe_op op_sub (pv 3) pe_int) (fun _ _ => by rfl)) pe_int (nomark _)) (pss_one (ps_expr (pe_bm PySem.F.plainAttrs_list PySem.F.slot_list_append PySem.F.type_list_append mt_append (pv 2) (pa_cons (pe_ix (ix_any (hu9 hr)) (pe_fld (pv 0) (by rfl)) (pe_tup (pa_cons (pv 3) (pa_cons (pe_ix (ix_any (hu9 hr)) (pv 1) (pe_op op_sub (pv 3) pe_int) (fun _ _ => by rfl)) pa_nil))) (fun _ _ => by rfl)) pa_nil)))) pss_nil))) (pss_one (ps_ret (pe_callB (cr_max rfl) (by rfl) E.max (by decide +kernel) (pa_cons (pv 2) pa_nil)))))), ?_⟩)
  · obtain ⟨p, dx, d, fs, v, c, ms, rfl, _⟩ := h
    rfl
  · obtain ⟨p, dx, d, fs, v, c, ms, rfl, hp, hf, hd, hc, hl, hm, k⟩ := h
    refine q_set (ev_lstN (T := T) (Y := yI) (ds := [0]) (eds_cons ev_int eds_nil) (by show 1 ≤ sizeLine; decide)) fun v1 H1 r1 ⟨a, vs1, e1, ha, na, l1⟩ => ?_
    subst e1
    have el := int_map l1
    subst el
    have hp1 := r1.ins hp
    have r : Rp T H H1 := r1
    refine s_forT (T := T) (Y := yI) (bs := [1, 2, 3, 4]) (ev_kT (ev_tc E.q_HANDS_clocks)) fun H2 r2 => ?_
    refine ⟨fun i σ' H' => Tk H2 H' ∧ Rp T H H' ∧ (∃ hv, σ' = [some (.ref p), some v, some (.ref a), hv]) ∧ ∃ ns : List Int, H' a = some (.lst (ns.map V.int)) ∧ (0 : Int) ∈ ns ∧ ns.length ≤ i + 1 ∧ ∀ j h t, j < i → ([1, 2, 3, 4] : List Int)[j]? = some h → 0 < ck c h → lu ms (tI [h, ck c h]) = some t → t ∈ ns, ?_, fun i σ' H' q => q.1, ?_, ?_⟩
    · exact ⟨Tk.refl _, r.trans r2, ⟨none, rfl⟩, [0], r2.lst ha, List.mem_cons_self, Nat.le_refl _, fun j h t hj => by omega⟩
    · rintro i h σ' H' x hi ⟨tk, r3, ⟨hv, eσ⟩, ns, hn, z0, nl, hall⟩ hx
      obtain rfl : x = V.int h := hx
      subst eσ
      have i4 : i < 4 := (List.getElem?_eq_some_iff.mp hi).1
      have hh : Hand h := by
        have m := List.mem_of_getElem? hi
        simp at m
        unfold Hand
        omega
      show tIfS _ _ tNext _ [some (.ref p), some v, some (.ref a), some (.int h)] H'
      generalize hσ : ([some (.ref p), some v, some (.ref a), some (.int h)] : L2.St) = σ3
      have eh : ∀ H4, Rp T H' H4 → Ev T yI (tVar 3) σ3 H4 h := fun _ _ => ev_var (by rw [← hσ]; rfl) rfl
      have ec : ∀ H4, Rp T H' H4 → Ev T (yk K) (tVar 1) σ3 H4 c := fun H4 r4 => ev_var (by rw [← hσ]; rfl) (Mono.mono (T := T) (Y := yk K) (r3.trans r4) hc)
      have ecn : ∀ H4, Rp T H' H4 → Ev T yI (tOp (rSub K P w) (tVar 1) (tOp (rI0 fun i j => V.int (i - j)) (tVar 3) (tC (.int 1)))) σ3 H4 (ck c h) := fun H4 r4 => ev_suk (ec H4 r4) (ev_sub (eh H4 r4) ev_int) (ck_at hl hh)
      refine q_if (et_test (ev_cmp (ecn H' (Rp.refl _)) ev_int)) (fun hc1 H4 r4 => ?_) (fun hc0 H4 r4 => ?_)
      · have hpos : 0 < ck c h := of_decide_eq_true hc1
        obtain ⟨t, ht⟩ := hm h hh hpos
        refine s_append (b := t) (Y := yI) (ev_var (b := V.ref a) (by rw [← hσ]; rfl) rfl) (ev_suK (ms := ms) (k := tI [h, ck c h]) (ev_fld (ev_var (b := V.ref p) (by rw [← hσ]; rfl) rfl) ((r3.trans r4).ins hp) E.c_Deeds E.n_Deeds_time hf (Mono.mono (T := T) (r3.trans r4) hd)) (ev_kD (ev_tupk (eds_cons (eh H4 r4) (eds_cons (ecn H4 r4) eds_nil)) (by show 2 ≤ sizeLine; decide))) (by unfold keyOk; rw [tI_ok]; rfl) ht) (r4.lst hn) (by rw [List.length_map]; exact Nat.lt_of_le_of_lt nl (Nat.lt_of_le_of_lt (by omega : i + 1 ≤ 5) (by decide))) fun v5 H5 r5 e5 => ?_
        obtain rfl : v5 = V.int t := e5
        have h5 := (r4.trans r5).lst hn
        refine ⟨(tk.trans (r4.trans r5).tk).trans (Tk.updL h5), (r3.trans (r4.trans r5)).chgLN na h5, ⟨_, hσ.symm⟩, ns ++ [t], by rw [upd_same, List.map_append]; rfl, List.mem_append_left _ z0, by rw [List.length_append, List.length_singleton]; omega, fun j h' t' hj e1 e2 e3 => ?_⟩
        by_cases hji : j = i
        · subst hji
          rw [hi] at e1
          cases e1
          rw [ht] at e3
          cases e3
          exact List.mem_append_right _ List.mem_cons_self
        · exact List.mem_append_left _ (hall j h' t' (by omega) e1 e2 e3)
      · refine ⟨tk.trans r4.tk, r3.trans r4, ⟨_, hσ.symm⟩, ns, r4.lst hn, z0, by omega, fun j h' t' hj e1 e2 e3 => ?_⟩
        by_cases hji : j = i
        · subst hji
          rw [hi] at e1
          cases e1
          exact absurd e2 (by have := of_decide_eq_false hc0; omega)
        · exact hall j h' t' (by omega) e1 e2 e3
    · rintro σ' H' ⟨tk, r3, ⟨hv, eσ⟩, ns, hn, z0, nl, hall⟩
      subst eσ
      refine ev_maxL (T := T) (ev_var (Y := yL yI) (b := ns) rfl ⟨a, ns.map V.int, rfl, hn, paired_ints ns⟩) (List.length_pos_of_mem z0) H' (Rp.refl _) _ fun m H4 r4 hm1 hm2 => k m H4 (r3.trans r4) (hm2 0 z0) fun h t hh hpos ht => hm2 t ?_
      have hcase : h = 1 ∨ h = 2 ∨ h = 3 ∨ h = 4 := by
        obtain ⟨x1, x2⟩ := hh
        omega
      rcases hcase with e | e | e | e <;> subst e
      · exact hall 0 1 t (by decide) rfl hpos ht
      · exact hall 1 2 t (by decide) rfl hpos ht
      · exact hall 2 3 t (by decide) rfl hpos ht
      · exact hall 3 4 t (by decide) rfl hpos ht
end
end K20
namespace K20
open PySem PySem.Spec PyProof.Rows L2
section
variable {P : Program} {w : World} {K : Fg} {mg : Str → Option Value} {base : Heap} {T : List (Addr × Str)}
theorem memT_aux {U : List (Addr × Str)} {p : Addr} {q : Str} (h : U = [(p, q)]) : (p, q) ∈ U := by
  rw [h]
  exact List.mem_singleton.mpr rfl
theorem onlyT_aux {U : List (Addr × Str)} {p : Addr} {q : Str} (h : U = [(p, q)]) : ∀ z ∈ U, z.1 = p → z.2 = q := fun z hz _ => by
  rw [h] at hz
  rw [List.mem_singleton.mp hz]
/-! ### Deeds.__init__ -/
def kf1 (x : Deed) : List Int := [x.seen.sum, x.h]
def key1 (K : Fg) : (Deed → List Int) → L2.St → Hp → Addr → Deed → Prop := fun kf _ H r x => Dt K H (.ref r) x.d ∧ kf x = kf1 x
theorem deed_inv {K : Fg} {H : Hp} {v : V} {x : Deed} (h : Dt K H v x.d) : ∃ a t v4, v = .ref a ∧ SqT K H a [.int x.h, .int x.n, .ref t, v4] ∧ SqT K H t (x.seen.map V.int) ∧ Dt K H v4 x.act.d := by
  obtain ⟨a, xs, e, s, l⟩ := Dt.tup_inv h
  cases l with
  | cons l1 l => cases l with
    | cons l2 l => cases l with
      | cons l3 l => cases l with
        | cons l4 l =>
          cases l
          obtain ⟨t, e3, s3⟩ := yk_inv l3
          have q1 := l1.num_inv
          have q2 := l2.num_inv
          subst q1 q2 e3
          exact ⟨a, t, _, e, s, s3, l4⟩
theorem key1_imp {X : Cx} (kf : Deed → List Int) (eK : X.K = K := by rfl) : ∀ σ H r x, key1 K kf σ H r x → keySum X kf σ H r x := fun σ H r x ⟨h, ek⟩ => by
  subst eK
  obtain ⟨a, t, v4, e, s, s3, _⟩ := deed_inv h
  cases e
  exact ⟨_, t, x.seen, x.h, s, rfl, s3, rfl, ek⟩
def key2 (E : Tp K mg w T base) (P : Program) (kf : List Int → List Int) : L2.St → Hp → Addr → List Int → Prop := fun σ H r k => Dt K H (.ref r) (tI k) ∧ ∃ (h n t : Int) (p dx d : Addr) (fs : List (Str × V)) (kvs : List (D × V)), k = [h, n] ∧ kf k = [t, h] ∧ σ[0]? = some (some (.ref p)) ∧ H p = some (.ins E.C_Deeds dx fs) ∧
  fs.lookup ("time" : Str) = some (.ref d) ∧ DictAt K P w H d kvs ∧ valV kvs (tI k) = some (.int t)
theorem key2_imp (E : Tp K mg w T base) {X : Cx} {kf : List Int → List Int} (eK : X.K = K := by rfl) (eP : X.prog = P := by rfl) (ew : X.w = w := by rfl) : ∀ σ H r k, key2 E P kf σ H r k → keyTime X 0 kf σ H r k := fun σ H r k ⟨hd, h, n, t, p, dx, d, fs, kvs, ek, ekf, e0, hp, hl, hk, hv⟩ => by
  subst eK eP ew
  obtain ⟨a, e, s⟩ := yk_inv hd
  cases e
  refine ⟨_, p, E.C_Deeds, dx, fs, d, kvs, tI k, t, h, s, ?_, e0, hp, E.c_Deeds, E.n_Deeds_time, hl, hk, hd, ?_, hv, ekf⟩
  · rw [ek]; rfl
  · rw [tI_depth]; decide
end
end K20
namespace K20
open PySem PySem.Spec PyProof.Rows L2
section
variable {P : Program} {w : World} {K : Fg} {mg : Str → Option Value} {base : Heap} {T : List (Addr × Str)}
/-! ### a Deeds object -/
def flds (b t k m u : Addr) : List (Str × V) := [("by_id", .ref b), ("time", .ref t), ("kept", .ref k), ("parts", .ref m), ("turn", .ref u)]
theorem lk_hit {f : Str} {v : V} {r : List (Str × V)} : ((f, v) :: r).lookup f = some v := by simp [List.lookup]
theorem lk_miss {f g : Str} {v : V} {r : List (Str × V)} (h : (f == g) = false) : ((g, v) :: r).lookup f = r.lookup f := by simp [List.lookup, h]
section
variable {b t k m u : Addr}
theorem fl_by : (flds b t k m u).lookup ("by_id" : Str) = some (.ref b) := lk_hit
theorem fl_kept : (flds b t k m u).lookup ("kept" : Str) = some (.ref k) := by
  unfold flds
  rw [lk_miss (by decide +kernel), lk_miss (by decide +kernel), lk_hit]
theorem fl_parts : (flds b t k m u).lookup ("parts" : Str) = some (.ref m) := by
  unfold flds
  rw [lk_miss (by decide +kernel), lk_miss (by decide +kernel), lk_miss (by decide +kernel), lk_hit]
theorem fl_turn : (flds b t k m u).lookup ("turn" : Str) = some (.ref u) := by
  unfold flds
  rw [lk_miss (by decide +kernel), lk_miss (by decide +kernel), lk_miss (by decide +kernel), lk_miss (by decide +kernel), lk_hit]
theorem fl_no {f : Str} (h : (["by_id", "time", "kept", "parts", "turn"] : List Str).all (fun g => !(f == g)) = true) : (flds b t k m u).lookup f = none := by
  simp only [List.all_cons, List.all_nil, Bool.and_true, Bool.and_eq_true, Bool.not_eq_true'] at h
  obtain ⟨h1, h2, h3, h4, h5⟩ := h
  unfold flds
  rw [lk_miss h1, lk_miss h2, lk_miss h3, lk_miss h4, lk_miss h5]
  rfl
end
/-- what never changes of the Deeds object at p: its deeds in turn are L; its dict kept at k, its dict parts at m -/
structure DObj (E : Tp K mg w T base) (P : Program) (H : Hp) (p : Addr) (L : List Deed) (k m : Addr) : Prop where
  ex : ∃ (dx b t u : Addr) (ms : List (D × Deed)) (vs : List V), H p = some (.ins E.C_Deeds dx (flds b t k m u)) ∧ yM K P w (ydd K) H (.ref b) ms ∧ (∀ x ∈ L, lu ms (tI x.id) = some x) ∧ (∀ q, q ∈ ms.map (·.1) → ∃ x ∈ L, q = tI x.id) ∧
    H u = some (.lst vs) ∧ Paired (yk K H) vs (L.map Deed.id)
theorem DObj.rp {E : Tp K mg w T base} {H H' : Hp} {p : Addr} {L : List Deed} {k m : Addr} (r : Rp T H H') (h : DObj E P H p L k m) : DObj E P H' p L k m := by
  obtain ⟨dx, b, t, u, ms, vs, h1, h2, h3, h4, h5, h6⟩ := h.ex
  exact ⟨dx, b, t, u, ms, vs, r.ins h1, Mono.mono (T := T) r h2, h3, h4, r.lst h5, Paired.mapP h6 fun _ _ y => Mono.mono (T := T) (Y := yk K) r y⟩
theorem keyI (k : List Int) : keyOk (tI k) = true := by
  unfold keyOk
  rw [tI_ok]
  rfl
theorem paired_refs {H H' : Hp} (r : Tk H H') : ∀ (ks : List (List Int)) (qs : List Addr), Paired (fun k q => Dt K H (.ref q) k) (ks.map tI) qs → Paired (yk K H') (qs.map V.ref) ks := fun ks => by
  induction ks with
  | nil => intro qs h; cases h; exact .nil
  | cons k ks ih =>
    intro qs h
    cases h with
    | cons x t => exact .cons (Imm.imm (Y := yk K) r x) (ih _ t)
/-- the keys of a dict, listed -/
theorem ev_keys {γ : Type} {Z : Hp → V → γ → Prop} {te : TE} {σ : L2.St} {H : Hp} {ms : List (D × γ)} {ks : List (List Int)} (h : Ev T (yM K P w Z) te σ H ms) (e : ms.map (·.1) = ks.map tI) (hl : ks.length ≤ sizeLine) : Ev T (yL (yk K)) (tCB (rListK K P w) (tCons te tNil)) σ H ks := fun H1 r1 Q q => h H1 r1 _ fun v H2 r2 ⟨a, kvs, ea, d, l⟩ => by
  obtain ⟨o, en⟩ := d.ents
  have ek : kvs.map (·.1) = ks.map tI := (paired_keys l).trans e
  rw [ek] at en
  exact ⟨a, o, ks.map tI, by rw [ea], en, by rw [List.length_map]; exact hl, fun qs l hl hq => q (.ref l) _ (r2.trans (Rp.new hl)) ⟨l, qs.map V.ref, rfl, upd_same, paired_refs (Rp.new (T := T) hl).tk ks qs hq⟩⟩
/-- an object changes; a dict does not -/
theorem DictAt.ne_obj {H : Hp} {d p C dx : Addr} {fs : List (Str × V)} {kvs : List (D × V)} (x : DictAt K P w H d kvs) (hp : H p = some (.ins C dx fs)) : d ≠ p := by
  obtain ⟨o, e, _⟩ := x.raw
  exact ne_of e hp (fun z => by unfold RawO at z; cases z)
theorem tk_ins {H : Hp} {p C dx : Addr} {fs : List (Str × V)} {o : HO} (hp : H p = some (.ins C dx fs)) : Tk H (upd H p o) := Tk.upd hp (fun _ z => by cases z) (fun _ _ z => by cases z)
theorem DictAt.ins {H : Hp} {d p C dx : Addr} {fs : List (Str × V)} {kvs : List (D × V)} {o : HO} (x : DictAt K P w H d kvs) (hp : H p = some (.ins C dx fs)) : DictAt K P w (upd H p o) d kvs := x.keep (fun u e => by rw [upd_ne (x.ne_obj hp)]; exact e) (tk_ins hp)
theorem DictAt.other {H : Hp} {d d' : Addr} {kvs kvs' : List (D × V)} {o : HO} (x : DictAt K P w H d kvs) (y : DictAt K P w H d' kvs') (n : d ≠ d') : DictAt K P w (upd H d' o) d kvs := x.keep (fun u e => by rw [upd_ne n]; exact e) y.tk
/-- the times so far -/
def TP (D1 : List Deed) (ts : List (D × Int)) : Prop := ∀ y ∈ D1, ∀ h, Hand h → 0 < ck y.seen h → ∃ t t', lu ts (tI [h, ck y.seen h]) = some t ∧ lu ts (tI y.id) = some t' ∧ t < t'
theorem tI_map_nd {L : List Deed} (h : (L.map Deed.id).Nodup) : (L.map fun x => tI x.id).Nodup := by
  have e : (L.map fun x => tI x.id) = (L.map Deed.id).map tI := by rw [List.map_map]; rfl
  rw [e]
  unfold List.Nodup
  rw [List.pairwise_map]
  exact List.Pairwise.imp (fun {a b} n z => n (tI_inj z)) h
/-- an earlier deed -/
theorem Good.earlier {L D1 : List Deed} (g : Good L) (p : D1.Perm L) (s : D1.Pairwise fun a b => kf1 a ≤ kf1 b) {i : Nat} {x : Deed} (hi : D1[i]? = some x) {h : Int} (hh : Hand h) (h0 : 0 < ck x.seen h) : ∃ y ∈ D1.take i, y.id = [h, ck x.seen h] := by
  have hxL : x ∈ L := p.mem_iff.mp (List.mem_of_getElem? hi)
  obtain ⟨y, hy, ey, _, q⟩ := g.find hxL hh (m := ck x.seen h) (by omega) (Int.le_refl _)
  refine ⟨y, ?_, ey⟩
  have lt := g.sum_past hxL hy q
  have hyD : y ∈ D1 := p.mem_iff.mpr hy
  have split : D1 = D1.take i ++ x :: D1.drop (i + 1) := by
    have hl := (List.getElem?_eq_some_iff.mp hi).1
    have e : D1[i] = x := (List.getElem?_eq_some_iff.mp hi).2
    rw [← e, ← List.drop_eq_getElem_cons hl, List.take_append_drop]
  rw [split] at hyD s
  rcases List.mem_append.mp hyD with m | m
  · exact m
  · exfalso
    rcases List.mem_cons.mp m with e | m
    · rw [e] at lt
      omega
    · have z := (List.pairwise_cons.mp (List.pairwise_append.mp s).2.1).1 y m
      unfold kf1 at z
      have z' : ¬ ([y.seen.sum, y.h] < [x.seen.sum, x.h]) := z
      exact z' (List.Lex.rel lt)
theorem ev_mapL {te : TE} {σ : L2.St} {H : Hp} {β : Type} {Y Z : Hp → V → β → Prop} {bs : List β} (h : Ev T (yL Y) te σ H bs) (i : ∀ H1 v b, Rp T H H1 → Y H1 v b → Z H1 v b) : Ev T (yL Z) te σ H bs := h.imp fun H1 v r ⟨a, vs, e, ha, l⟩ => ⟨a, vs, e, ha, Paired.mapP l fun v b y => i H1 v b r y⟩
theorem raw_ne {H : Hp} {d q : Addr} {kvs : List (D × V)} {o : HO} (x : DictAt K P w H d kvs) (h : H q = some o) (n : ∀ u, o ≠ RawO d u) : q ≠ d := fun e => by
  obtain ⟨u, eu, _⟩ := x.raw
  rw [e, eu] at h
  exact n u (Option.some.inj h).symm
theorem lst_raw {d : Addr} {vs : List V} (u : Obj) : HO.lst vs ≠ RawO d u := fun z => by unfold RawO at z; cases z
theorem ins_raw {d C dx : Addr} {fs : List (Str × V)} (u : Obj) : HO.ins C dx fs ≠ RawO d u := fun z => by unfold RawO at z; cases z
theorem dK_raw {d : Addr} {l : List (Key × V)} (u : Obj) : HO.dK l ≠ RawO d u := fun z => by unfold RawO at z; cases z
theorem map_take_id {D1 : List Deed} {i : Nat} {x : Deed} (nd : (D1.map Deed.id).Nodup) (hi : D1[i]? = some x) : tI x.id ∉ (D1.take i).map fun x => tI x.id := fun m => by
  obtain ⟨y, hy, e⟩ := List.mem_map.mp m
  have split : D1 = D1.take i ++ x :: D1.drop (i + 1) := by
    have hl := (List.getElem?_eq_some_iff.mp hi).1
    have e : D1[i] = x := (List.getElem?_eq_some_iff.mp hi).2
    rw [← e, ← List.drop_eq_getElem_cons hl, List.take_append_drop]
  rw [split, List.map_append] at nd
  exact (List.nodup_append.mp nd).2.2 _ (List.mem_map.mpr ⟨y, hy, rfl⟩) _ (List.mem_map.mpr ⟨x, List.mem_cons_self, rfl⟩) (tI_inj e)
theorem sc_Deeds___init__ : FnScope ["self", "deeds", "deed"] ["self", "deeds"] (defScope s_Deeds___init__) := ⟨rfl, rfl, rfl, by decide +kernel, rfl, by decide +kernel, by decide +kernel⟩
theorem bd_Deeds___init__ (E : Tp K mg w T base) : Binds K E.d_Deeds___init__ ["self", "deeds"] [] := E.F_Deeds___init__.bindsN fun _ _ _ _ _ _ us hl => match us, hl with | [_, _], _ => rfl
/-- Deeds(S): an object of the same deeds, in an order in which each follows its past -/
def sp_init (E : Tp K mg w T base) (P : Program) : Sp := fun vs H Q _ => ∃ (H0 : Hp) (p dx : Addr) (v : V) (S L : List Deed), vs = [.ref p, v] ∧ Rp T H0 H ∧ Nw H0 p ∧ LamX.Tabs T H0 ∧ H p = some (.ins E.C_Deeds dx []) ∧ yL (ydd K) H0 v S ∧ S.Perm L ∧ Good L ∧ S.length ≤ 1000 ∧
  ∀ H' M k m, Rp T H0 H' → Good M → M.Perm L → DObj E P H' p M k m → (∀ dx fs b, H' p = some (.ins E.C_Deeds dx fs) → fs.lookup ("by_id" : Str) = some (.ref b) → Nw H0 b ∧ b ≠ m) → Nw H0 k → Nw H0 m → H' k = some (.dK []) → DictAt K P w H' m [] → Q .non H'
theorem ok_Deeds___init__ (E : Tp K mg w T base) : FnOk P w K mg base CX0 2 E.f_Deeds___init__ E.d_Deeds___init__ ["self", "deeds"] (sp_init E P) := by
  obtain ⟨oc, od, dV, kV, doc, pm, an, cdv, ct, osl, efd, lk, hcd, _, _⟩ := E.F_Deeds___init__.ex
  have hcode0 : cdv = .ref E.c_I := by
    have z := E.code_I
    rw [efd] at z
    exact z
  rw [efd] at lk ⊢
  refine fn_of lk hcd sc_Deeds___init__ (fun vs H Q Ex h => ?_) fun A outer s H vs Q Ex hr h => ?_
  · obtain ⟨H0, p, dx, v, S, L, rfl, _⟩ := h
    rfl
  have hcode : (cxOf CX0 P w K mg base ["self", "deeds", "deed"] "Deeds.__init__" (defScope s_Deeds___init__) E.f_Deeds___init__ cdv A outer s H Ex).nox.env.code = .ref E.c_I := hcode0
  refine ⟨_, PSs.nox (pss_cons (ps_fld (pv 0) (pe_knew) rfl) (pss_cons (ps_fld (pv 0) (pe_knew) rfl) (pss_cons (ps_fld (pv 0) pe_dnewK rfl) (pss_cons (ps_fld (pv 0) (pe_knew) rfl) (pss_cons (ps_for PassesOwn.never rfl (pi_list (pe_sortKey (key := key1 K) (hr.mono (Nat.zero_le _)) (by rfl) E.sorted (pv 1) E.tab_I hcode (memT_aux E.hT) (onlyT_aux E.hT) (by rfl) rfl rfl rfl rfl (by decide +kernel) rfl (fun _ _ _ _ _ _ => rfl) (fun kf => LamBody.imp (key1_imp kf) (body_sum rfl rfl rfl E.sum)))) (pg_name (i := 2) sc_Deeds___init__.nd rfl (.inl rfl)) (pss_cons (ps_asg (pv 2) (pg_sub (pe_fld (pv 0) (by rfl)) (pe_call (ok_id_of (T := T) E) (hr.mono (by decide)) (by rfl) E.g_id_of E.F_id_of.kp (bd_id_of E) .nil pass0 (pa_cons (pv 2) pa_nil)) (set_k (hu9 hr)))) (pss_one (ps_asg (pe_op op_plus pe_int (pe_meth (pv 0) E.c_Deeds E.m_Deeds_greatest_time (ok_Deeds_greatest_time (T := T) E) (hr.mono (by decide)) (bd_Deeds_greatest_time E) .nil pass0 (pa_cons (pe_ix (ix_any (hu9 hr)) (pv 2) pe_int (fun _ _ => by rfl)) pa_nil))) (pg_sub (pe_fld (pv 0) (by rfl)) (pe_call (ok_id_of (T := T) E) (hr.mono (by decide)) (by rfl) E.g_id_of E.F_id_of.kp (bd_id_of E) .nil pass0 (pa_cons (pv 2) pa_nil)) (set_k (hu9 hr))))))) (pss_one (ps_fld (pv 0) (pe_sortKey (key := key2 E P) (hr.mono (Nat.zero_le _)) (by rfl) E.sorted (pe_callTy (cr_listK rfl) (by rfl) E.list (by decide +kernel) (pa_cons (pe_fld (pv 0) rfl) pa_nil)) E.tab_I hcode (memT_aux E.hT) (onlyT_aux E.hT) (by rfl) rfl rfl rfl rfl (by decide +kernel) rfl (fun _ _ _ _ _ _ => rfl) (fun kf => LamBody.imp (key2_imp E) (body_time (i := 0) rfl rfl rfl rfl rfl (fun _ => rfl)))) rfl))))))), ?_⟩
  obtain ⟨H0, p, dx, v, S, L, rfl, r0, np, hT0, hp, hS, hSL, g, hlen, k⟩ := h
  have C := E.c_Deeds
  have self : ∀ H' : Hp, Ev T yV (tVar 0) (start ["self", "deeds", "deed"] [.ref p, v]) H' (.ref p) := fun H' => ev_var rfl rfl
  -- by_id, time, kept, parts
  refine q_fld (T := T) (Y := yKN K P w H) (b := []) ev_knew (self _) hp C E.n_Deeds_by_id (by decide) (fun v1 H1 r1 ⟨b, e1, d1, nb⟩ => ?_) yKN_mono
  subst e1
  have hp1 := r1.ins hp
  have rA : Rp T H0 (upd H1 p (.ins E.C_Deeds dx [("by_id", .ref b)])) := (r0.trans r1).chgIN np hp1
  have dA := d1.ins (o := .ins E.C_Deeds dx [("by_id", .ref b)]) hp1
  have hpA : upd H1 p (.ins E.C_Deeds dx [("by_id", .ref b)]) p = some (.ins E.C_Deeds dx [("by_id", .ref b)]) := upd_same
  have nb0 := r0.nw nb
  show tSeq _ _ _ _ (upd H1 p (.ins E.C_Deeds dx [("by_id", .ref b)]))
  generalize upd H1 p (.ins E.C_Deeds dx [("by_id", .ref b)]) = HA at rA dA hpA ⊢
  clear hp1 d1 nb r1
  refine q_fld (T := T) (Y := yKN K P w HA) (b := []) ev_knew (self _) hpA C E.n_Deeds_time (by show 1 < 1000; decide) (fun v2 H2 r2 ⟨t, e2, d2, nt⟩ => ?_) yKN_mono
  subst e2
  have e2 : putF ("time" : Str) (V.ref t) [("by_id", .ref b)] = ([("by_id", .ref b), ("time", .ref t)] : List (Str × V)) := putF_new (show ("time" : Str) ∉ (["by_id"] : List Str) from by decide +kernel)
  rw [e2]
  have hp2 := r2.ins hpA
  have hbt : b ≠ t := fun e => by
    obtain ⟨o, eo, _⟩ := dA.raw
    rw [e] at eo
    obtain ⟨ps, z⟩ := nt _ eo
    exact RawO.noTbl ps z
  have rB : Rp T H0 (upd H2 p (.ins E.C_Deeds dx [("by_id", .ref b), ("time", .ref t)])) := (rA.trans r2).chgIN np hp2
  have dA2 := (dA.rp r2).ins (o := .ins E.C_Deeds dx [("by_id", .ref b), ("time", .ref t)]) hp2
  have dB2 := d2.ins (o := .ins E.C_Deeds dx [("by_id", .ref b), ("time", .ref t)]) hp2
  have hpB : upd H2 p (.ins E.C_Deeds dx [("by_id", .ref b), ("time", .ref t)]) p = some (.ins E.C_Deeds dx [("by_id", .ref b), ("time", .ref t)]) := upd_same
  have nt0 := rA.nw nt
  generalize upd H2 p (.ins E.C_Deeds dx [("by_id", .ref b), ("time", .ref t)]) = HB at rB dA2 dB2 hpB ⊢
  clear hp2 d2 nt r2 dA hpA rA
  refine q_fld (T := T) (Y := yDN HB) (b := ()) ev_dnew (self _) hpB C E.n_Deeds_kept (by show 2 < 1000; decide) (fun v3 H3 r3 ⟨kk, e3, d3, nk⟩ => ?_) yDN_mono
  subst e3
  have e3 : putF ("kept" : Str) (V.ref kk) [("by_id", .ref b), ("time", .ref t)] = ([("by_id", .ref b), ("time", .ref t), ("kept", .ref kk)] : List (Str × V)) := putF_new (show ("kept" : Str) ∉ (["by_id", "time"] : List Str) from by decide +kernel)
  rw [e3]
  have hp3 := r3.ins hpB
  have rC : Rp T H0 (upd H3 p (.ins E.C_Deeds dx [("by_id", .ref b), ("time", .ref t), ("kept", .ref kk)])) := (rB.trans r3).chgIN np hp3
  have dA3 := (dA2.rp r3).ins (o := .ins E.C_Deeds dx [("by_id", .ref b), ("time", .ref t), ("kept", .ref kk)]) hp3
  have dB3 := (dB2.rp r3).ins (o := .ins E.C_Deeds dx [("by_id", .ref b), ("time", .ref t), ("kept", .ref kk)]) hp3
  have hk3 : upd H3 p (.ins E.C_Deeds dx [("by_id", .ref b), ("time", .ref t), ("kept", .ref kk)]) kk = some (.dK []) := by rw [upd_ne (ne_of d3 hp3 (fun z => by cases z))]; exact d3
  have hpC : upd H3 p (.ins E.C_Deeds dx [("by_id", .ref b), ("time", .ref t), ("kept", .ref kk)]) p = some (.ins E.C_Deeds dx [("by_id", .ref b), ("time", .ref t), ("kept", .ref kk)]) := upd_same
  have nk0 := rB.nw nk
  generalize upd H3 p (.ins E.C_Deeds dx [("by_id", .ref b), ("time", .ref t), ("kept", .ref kk)]) = HC at rC dA3 dB3 hk3 hpC ⊢
  clear hp3 d3 nk r3 dA2 dB2 hpB rB
  refine q_fld (T := T) (Y := yKN K P w HC) (b := []) ev_knew (self _) hpC C E.n_Deeds_parts (by show 3 < 1000; decide) (fun v4 H4 r4 ⟨m, e4, d4, nm⟩ => ?_) yKN_mono
  subst e4
  have e4 : putF ("parts" : Str) (V.ref m) [("by_id", .ref b), ("time", .ref t), ("kept", .ref kk)] = ([("by_id", .ref b), ("time", .ref t), ("kept", .ref kk), ("parts", .ref m)] : List (Str × V)) := putF_new (show ("parts" : Str) ∉ (["by_id", "time", "kept"] : List Str) from by decide +kernel)
  rw [e4]
  have nwn : ∀ {q : Addr} {kvs : List (D × V)}, DictAt K P w HC q kvs → q ≠ m := fun {q kvs} d e => by
    obtain ⟨o, eo, _⟩ := d.raw
    rw [e] at eo
    obtain ⟨ps, z⟩ := nm _ eo
    exact RawO.noTbl ps z
  have hbm := nwn dA3
  have htm := nwn dB3
  have hp4 := r4.ins hpC
  generalize hfs : ([("by_id", .ref b), ("time", .ref t), ("kept", .ref kk), ("parts", .ref m)] : List (Str × V)) = fs
  have rD : Rp T H0 (upd H4 p (.ins E.C_Deeds dx fs)) := (rC.trans r4).chgIN np hp4
  have dB := (dA3.rp r4).ins (o := .ins E.C_Deeds dx fs) hp4
  have dT := (dB3.rp r4).ins (o := .ins E.C_Deeds dx fs) hp4
  have dM := d4.ins (o := .ins E.C_Deeds dx fs) hp4
  have hkD : upd H4 p (.ins E.C_Deeds dx fs) kk = some (.dK []) := by
    have z := r4.keep _ _ hk3 (fun _ z => by cases z)
    rw [upd_ne (ne_of z hp4 (fun z => by cases z))]
    exact z
  have hpD : upd H4 p (.ins E.C_Deeds dx fs) p = some (.ins E.C_Deeds dx fs) := upd_same
  have nm0 := rC.nw nm
  generalize upd H4 p (.ins E.C_Deeds dx fs) = HD at rD dB dT dM hkD hpD ⊢
  clear hp4 d4 nm r4 dA3 dB3 hpC rC nwn hk3
  have fby : fs.lookup ("by_id" : Str) = some (.ref b) := by rw [← hfs]; exact lk_hit
  have ftm : fs.lookup ("time" : Str) = some (.ref t) := by rw [← hfs, lk_miss (by decide +kernel)]; exact lk_hit
  have fgt : fs.lookup ("greatest_time" : Str) = none := by rw [← hfs, lk_miss (by decide +kernel), lk_miss (by decide +kernel), lk_miss (by decide +kernel), lk_miss (by decide +kernel)]; rfl
  have hT : LamX.Tabs T HD := rD.tabs hT0
  -- the loop
  have pD : (sortK kf1 S).Perm L := (sortK_perm kf1 S).trans hSL
  have oD := sortK_ord kf1 S
  have lD : (sortK kf1 S).length ≤ 1000 := by rw [(sortK_perm kf1 S).length_eq]; exact hlen
  have ndD : ((sortK kf1 S).map Deed.id).Nodup := (pD.map Deed.id).nodup_iff.mpr g.nd
  refine s_forL (T := T) (Y := ydd K) (bs := sortK kf1 S) (ev_mapL (ev_sortK kf1 hT (ev_var (Y := yL (ydd K)) rfl (Mono.mono rD hS)) (fun H1 v b _ _ y => by
    obtain ⟨a, _, _, e, _⟩ := deed_inv y
    subst e
    exact ⟨a, rfl, y, rfl⟩) (fun H1 H2 r b _ r2 y => ⟨Mono.mono (T := T) (Y := ydd K) r2 y.1, y.2⟩) (fun b _ => by unfold kf1; simp)) (fun H1 v b _ ⟨r, e, y, _⟩ => by rw [e]; exact y)) fun H5 a5 vs5 r5 ha5 => ?_
  generalize sortK kf1 S = D1 at pD oD lD ndD ⊢
  refine ⟨fun i σ' H' => Tk H5 H' ∧ H' a5 = some (.lst vs5) ∧ Rp T H0 H' ∧ H' p = some (.ins E.C_Deeds dx fs) ∧ (∃ hv, σ' = [some (.ref p), some v, hv]) ∧ (∃ kB, DictAt K P w H' b kB ∧ Paired (fun (p : D × V) (q : D × Deed) => p.1 = q.1 ∧ ydd K H' p.2 q.2) kB ((D1.take i).map fun x => (tI x.id, x))) ∧
    (∃ kT ts, DictAt K P w H' t kT ∧ Paired (fun (p : D × V) (q : D × Int) => p.1 = q.1 ∧ yI H' p.2 q.2) kT ts ∧ ts.map (·.1) = (D1.take i).map (fun x => tI x.id) ∧ TP (D1.take i) ts) ∧ H' kk = some (.dK []) ∧ DictAt K P w H' m [], ?_, fun i σ' H' q => ⟨q.1, q.2.1⟩, ?_, ?_⟩
  · exact ⟨Tk.refl _, ha5, rD.trans r5, r5.ins hpD, ⟨none, rfl⟩, ⟨[], dB.rp r5, .nil⟩, ⟨[], [], dT.rp r5, .nil, rfl, fun y hy => by cases hy⟩, r5.keep _ _ hkD (fun _ z => by cases z), dM.rp r5⟩
  · rintro i x σ' H' xv hi ⟨tk, hal, rI, hpI, ⟨hv, eσ⟩, ⟨kB, dBI, lB⟩, ⟨kT, ts, dTI, lT, eT, tp⟩, hkI, dMI⟩ hx
    subst eσ
    show tSeq _ _ _ [some (.ref p), some v, some xv] H'
    have il : i < D1.length := (List.getElem?_eq_some_iff.mp hi).1
    have hxL : x ∈ L := pD.mem_iff.mp (List.mem_of_getElem? hi)
    have hxo := g.ok x hxL
    have fresh := map_take_id ndD hi
    have evx : ∀ H6, Rp T H' H6 → Ev T (ydd K) (tVar 2) [some (.ref p), some v, some xv] H6 x := fun H6 r6 => ev_var rfl (Mono.mono (T := T) (Y := ydd K) r6 hx)
    have kB1 : kB.map (·.1) = (D1.take i).map fun x => tI x.id := by
      have z := paired_keys lB
      rw [List.map_map] at z
      exact z
    have lenB : kB.length < sizeLine := by
      have z := lB.length
      rw [List.length_map, List.length_take] at z
      exact Nat.lt_of_le_of_lt (by omega : kB.length ≤ 1000) (by decide)
    refine s_setK (T := T) (Y := ydd K) (b := x) (key := tI x.id) (evx H' (Rp.refl _)) (ev_fld (b := V.ref b) (ev_var (b := V.ref p) rfl rfl) hpI C E.n_Deeds_by_id fby rfl) (ev_c1 (a := x) (f := Deed.id) (Y := yk K) (evx H' (Rp.refl _)) trivial) (keyI _) dBI lenB fun v6 H6 o6 r6 y6 d6 d6' => ?_
    have hp6 := r6.ins hpI
    have npb := raw_ne d6 hp6 ins_raw
    have hk6 := r6.keep _ _ hkI (fun _ z => by cases z)
    have dT6 := dTI.rp r6
    have dM6 := dMI.rp r6
    have rJ : Rp T H0 (upd H6 b (RawO b o6)) := (rI.trans r6).chgDN nb0 d6
    have tk6 : Tk H6 (upd H6 b (RawO b o6)) := d6.tk
    have hpJ : upd H6 b (RawO b o6) p = some (.ins E.C_Deeds dx fs) := by rw [upd_ne npb]; exact hp6
    have hkJ : upd H6 b (RawO b o6) kk = some (.dK []) := by rw [upd_ne (raw_ne d6 hk6 dK_raw)]; exact hk6
    have halJ : upd H6 b (RawO b o6) a5 = some (.lst vs5) := by rw [upd_ne (raw_ne d6 (r6.lst hal) lst_raw)]; exact r6.lst hal
    have dTJ := dT6.other (o := RawO b o6) d6 (Ne.symm hbt)
    have dMJ := dM6.other (o := RawO b o6) d6 (Ne.symm hbm)
    have tkJ := (tk.trans r6.tk).trans tk6
    have tkHJ : Tk H' (upd H6 b (RawO b o6)) := r6.tk.trans tk6
    rw [putK_app (by rw [kB1]; exact fresh)] at d6'
    have lBJ : Paired (fun (p : D × V) (q : D × Deed) => p.1 = q.1 ∧ ydd K (upd H6 b (RawO b o6)) p.2 q.2) (kB ++ [(tI x.id, v6)]) ((D1.take (i + 1)).map fun x => (tI x.id, x)) := by
      rw [take_grow hi, List.map_append]
      exact paired_snocK (F := ydd K (upd H6 b (RawO b o6))) (Paired.mapP lB fun _ _ ⟨q1, q2⟩ => ⟨q1, Imm.imm (Y := ydd K) tkHJ q2⟩) (Imm.imm (Y := ydd K) tk6 y6)
    have hxJ : ydd K (upd H6 b (RawO b o6)) xv x := Imm.imm (Y := ydd K) tkHJ hx
    generalize upd H6 b (RawO b o6) = HJ at rJ hpJ hkJ halJ dTJ dMJ tkJ d6' lBJ hxJ ⊢
    clear tkHJ tk6 hp6 hk6 dT6 dM6 d6 y6 r6 hpI hkI hal rI dBI lB dTI dMI evx hx tk lenB
    have evx : ∀ H6, Rp T HJ H6 → Ev T (ydd K) (tVar 2) [some (.ref p), some v, some xv] H6 x := fun H6 r6 => ev_var rfl (Mono.mono (T := T) (Y := ydd K) r6 hxJ)
    -- time
    refine ⟨.ref p, rfl, p, dx, fs, rfl, hpJ, fgt, ?_⟩
    refine ev_seen (K := K) (P := P) (w := w) (evx HJ (Rp.refl _)) ev_int HJ (Rp.refl _) _ fun c7 H7 r7 y7 => ?_
    have eKT : yM K P w yI H7 (.ref t) ts := ⟨t, kT, rfl, dTJ.rp r7, lT⟩
    have had : ∀ h, Hand h → 0 < ck x.seen h → ∃ t0, lu ts (tI [h, ck x.seen h]) = some t0 := fun h hh h0 => by
      obtain ⟨y, hy, ey⟩ := g.earlier pD oD hi hh h0
      refine lu_some (t := ts) ?_
      rw [eT]
      exact List.mem_map.mpr ⟨y, hy, by rw [ey]⟩
    refine ⟨p, dx, t, fs, c7, x.seen, ts, rfl, r7.ins hpJ, ftm, eKT, y7, hxo.len, had, fun mm H8 r8 m0 mb => ?_⟩
    refine .inl ⟨1, mm, rfl, rfl, ?_⟩
    have r78 := r7.trans r8
    have lenT : kT.length < sizeLine := by
      have z := lT.length
      have z2 := congrArg List.length eT
      rw [List.length_map, List.length_map, List.length_take] at z2
      exact Nat.lt_of_le_of_lt (by omega : kT.length ≤ 1000) (by decide)
    have kT1 : kT.map (·.1) = (D1.take i).map fun x => tI x.id := (paired_keys lT).trans eT
    refine s_setK (T := T) (te := tC (.int (1 + mm))) (Y := yI) (b := 1 + mm) (key := tI x.id) ev_int (ev_fld (b := V.ref t) (ev_var (b := V.ref p) rfl rfl) (r78.ins hpJ) C E.n_Deeds_time ftm rfl) (ev_c1 (a := x) (f := Deed.id) (Y := yk K) (evx H8 r78) trivial) (keyI _) (dTJ.rp r78) lenT fun v9 H9 o9 r9 y9 d9 d9' => ?_
    have r0 := r78.trans r9
    have hp9 := r0.ins hpJ
    have hk9 := r0.keep _ _ hkJ (fun _ z => by cases z)
    rw [putK_app (by rw [kT1]; exact fresh)] at d9'
    refine ⟨(tkJ.trans r0.tk).trans d9.tk, by rw [upd_ne (raw_ne d9 (r0.lst halJ) lst_raw)]; exact r0.lst halJ, (rJ.trans r0).chgDN nt0 d9, by rw [upd_ne (raw_ne d9 hp9 ins_raw)]; exact hp9, ⟨_, rfl⟩, ⟨_, (d6'.rp r0).other d9 hbt, ?_⟩, ⟨_, ts ++ [(tI x.id, 1 + mm)], d9', ?_, ?_, ?_⟩, by rw [upd_ne (raw_ne d9 hk9 dK_raw)]; exact hk9, (dMJ.rp r0).other d9 (Ne.symm htm)⟩
    · exact Paired.mapP lBJ fun _ _ ⟨q1, q2⟩ => ⟨q1, Imm.imm (Y := ydd K) (r0.tk.trans d9.tk) q2⟩
    · exact paired_snocK (F := yI (upd H9 t (RawO t o9))) lT y9
    · rw [List.map_append, eT, take_grow hi, List.map_append]
      rfl
    · have old : ∀ q u, lu ts q = some u → lu (ts ++ [(tI x.id, 1 + mm)]) q = some u := fun q u e => by rw [lu_app, e]; rfl
      have new : lu (ts ++ [(tI x.id, 1 + mm)]) (tI x.id) = some (1 + mm) := by
        rw [lu_app, lu_none.mpr (by rw [eT]; exact fresh)]
        show lu [(tI x.id, 1 + mm)] (tI x.id) = _
        unfold lu
        rw [if_pos rfl]
      rw [take_grow hi]
      intro y hy h hh h0
      rcases List.mem_append.mp hy with hy | hy
      · obtain ⟨u, u', e1, e2, lt⟩ := tp y hy h hh h0
        exact ⟨u, u', old _ _ e1, old _ _ e2, lt⟩
      · have ey := List.mem_singleton.mp hy
        subst ey
        obtain ⟨u, hu⟩ := had h hh h0
        exact ⟨u, 1 + mm, old _ _ hu, new, by have := mb h u hh h0 hu; omega⟩
  · rintro σ' H' ⟨tk, hal, rI, hpI, ⟨hv, eσ⟩, ⟨kB, dBI, lB⟩, ⟨kT, ts, dTI, lT, eT, tp⟩, hkI, dMI⟩
    subst eσ
    rw [List.take_length] at lB eT tp
    generalize htm : (fun q : List Int => (lu ts (tI q)).getD 0) = tm
    have tmv : ∀ q u, lu ts (tI q) = some u → tm q = u := fun q u e => by rw [← htm]; show (lu ts (tI q)).getD 0 = u; rw [e]; rfl
    generalize hkf : (fun q : List Int => [tm q, q.getD 0 0]) = kf2
    have tok : TimeOk L tm := fun x hx h hh h0 => by
      obtain ⟨u, u', e1, e2, lt⟩ := tp x (pD.mem_iff.mpr hx) h hh h0
      rw [tmv _ _ e1, tmv _ _ e2]
      exact lt
    have has : ∀ x ∈ D1, ∃ u, lu ts (tI x.id) = some u := fun x hx => lu_some (t := ts) (by rw [eT]; exact List.mem_map.mpr ⟨x, hx, rfl⟩)
    have kB1 : (D1.map fun x => (tI x.id, x)).map (·.1) = (D1.map Deed.id).map tI := by rw [List.map_map, List.map_map]; rfl
    have hsort : Ev T (yL fun H v q => ∃ r, v = .ref r ∧ key2 E P kf2 [some (.ref p), some v, hv] H r q) (tSortK K T (tCB (rListK K P w) (tCons (tFld K (tVar 0) "by_id") tNil)) (key2 E P)) [some (.ref p), some v, hv] H' (sortK kf2 (D1.map Deed.id)) := by
      refine ev_sortK (K := K) (T := T) (σ := [some (.ref p), some v, hv]) (key := key2 E P) kf2 (rI.tabs hT0) (ev_keys (P := P) (w := w) (Z := ydd K) (ms := D1.map fun x => (tI x.id, x)) (ks := D1.map Deed.id) (ev_fld (ev_var (i := 0) (b := V.ref p) rfl rfl) hpI C E.n_Deeds_by_id fby ⟨b, kB, rfl, dBI, lB⟩) kB1 (by rw [List.length_map]; exact Nat.le_trans lD (by decide))) (fun H1 v q r1 hq y => ?_) (fun H1 H2 r q r1 r2 y => ?_) (fun q _ => by rw [← hkf]; simp)
      · obtain ⟨x, hx, rfl⟩ := List.mem_map.mp hq
        obtain ⟨a, e, _⟩ := yk_inv y
        subst e
        obtain ⟨t0, ht0⟩ := has x hx
        obtain ⟨u, hu1, hu2⟩ := (lu_val lT (tI x.id)).1 t0 ht0
        have hu2 : u = V.int t0 := hu2
        subst hu2
        exact ⟨a, rfl, y, x.h, x.n, t0, p, dx, t, fs, kT, rfl, by rw [← hkf]; show [tm x.id, x.h] = _; rw [tmv _ _ ht0], rfl, r1.ins hpI, ftm, dTI.rp r1, hu1⟩
      · obtain ⟨y1, h, n, t0, p', dx', d', fs', kvs', q1, q2, q3, q4, q5, q6, q7⟩ := y
        exact ⟨Mono.mono (T := T) (Y := yk K) r2 y1, h, n, t0, p', dx', d', fs', kvs', q1, q2, q3, r2.ins q4, q5, q6.rp r2, q7⟩
    refine q_fld1 (T := T) hsort (ev_var (i := 0) (b := V.ref p) rfl rfl) hpI C E.n_Deeds_turn (by rw [← hfs]; show 4 < 1000; decide) (fun uv H9 r9 y9 => ?_) (fun {H1 H2 v} r y => ?_)
    · obtain ⟨u, vs, eu, hu, lu9⟩ := y9
      subst eu
      have hp9 := r9.ins hpI
      have epf : putF ("turn" : Str) (V.ref u) fs = flds b t kk m u := by
        rw [← hfs]
        exact putF_new (show ("turn" : Str) ∉ (["by_id", "time", "kept", "parts"] : List Str) from by decide +kernel)
      rw [epf]
      have nup : u ≠ p := ne_of hu hp9 (fun z => by cases z)
      have r10 : Rp T H0 (upd H9 p (.ins E.C_Deeds dx (flds b t kk m u))) := (rI.trans r9).chgIN np hp9
      have tk9 : Tk H9 (upd H9 p (.ins E.C_Deeds dx (flds b t kk m u))) := tk_ins hp9
      have hk9 := r9.keep _ _ hkI (fun _ z => by cases z)
      have hM : (sortK (fun x : Deed => kf2 x.id) D1).map Deed.id = sortK kf2 (D1.map Deed.id) := (sortK_map Deed.id kf2 D1).symm
      have pM : (sortK (fun x : Deed => kf2 x.id) D1).Perm L := (sortK_perm _ D1).trans pD
      have gM : Good (sortK (fun x : Deed => kf2 x.id) D1) := g.turned tok pM ((sortK_ord (fun x : Deed => kf2 x.id) D1).imp fun {a c} z => by
        rw [← hkf] at z
        have z' : ¬ ([tm c.id, c.h] < [tm a.id, a.h]) := z
        by_cases q : tm c.id < tm a.id
        · exact absurd (List.Lex.rel q) z'
        · omega)
      refine k _ _ kk m r10 gM pM ⟨dx, b, t, u, D1.map fun x => (tI x.id, x), vs, upd_same, ⟨b, kB, rfl, (dBI.rp r9).ins hp9, Paired.mapP lB fun _ _ ⟨q1, q2⟩ => ⟨q1, Imm.imm (Y := ydd K) (r9.tk.trans tk9) q2⟩⟩, fun x hx => ?_, fun q hq => ?_, by rw [upd_ne nup]; exact hu, ?_⟩ (fun dx' fs' b' e1 e2 => by
        rw [upd_same] at e1
        cases e1
        rw [fl_by] at e2
        cases e2
        exact ⟨nb0, hbm⟩) nk0 nm0 (by rw [upd_ne (ne_of hk9 hp9 (fun z => by cases z))]; exact hk9) ((dMI.rp r9).ins hp9)
      · have hxD : x ∈ D1 := (sortK_perm _ D1).mem_iff.mp hx
        exact mem_lu (by rw [List.map_map]; exact tI_map_nd ndD) (List.mem_map.mpr ⟨x, hxD, rfl⟩)
      · rw [kB1] at hq
        obtain ⟨q', hq', rfl⟩ := List.mem_map.mp hq
        obtain ⟨x, hx, rfl⟩ := List.mem_map.mp hq'
        exact ⟨x, (sortK_perm _ D1).mem_iff.mpr hx, rfl⟩
      · rw [hM]
        exact Paired.mapP lu9 fun v q ⟨r, e, y, _⟩ => by rw [e]; exact Imm.imm (Y := yk K) tk9 y
    · obtain ⟨a, vs, e, ha, l⟩ := y
      refine ⟨a, vs, e, r.lst ha, Paired.mapP l fun v q ⟨r', e', y1, h, n, t0, p', dx', d', fs', kvs', q1, q2, q3, q4, q5, q6, q7⟩ => ⟨r', e', Mono.mono (T := T) (Y := yk K) r y1, h, n, t0, p', dx', d', fs', kvs', q1, q2, q3, r.ins q4, q5, q6.rp r, q7⟩⟩
end
end K20
namespace K20
open PySem PySem.Spec PyProof.Rows L2
section
variable {X : Cx}
/-- xs[i], by values -/
def rGetL : V → V → Hp → VK → Prop := fun x y H Q => ∃ (p : Addr) (xs : List V) (j : Nat) (v : V), x = .ref p ∧ y = .int (j : Int) ∧ H p = some (.lst xs) ∧ xs[j]? = some v ∧ Q v H
theorem gl_list : PGet X rGetL := by
  intro pins s σ H x y u u' Q I rx ry h
  obtain ⟨p, xs, j, v, ex, ey, hp, hj, q⟩ := h
  subst ex ey
  obtain rfl : u = Value.ref p := rx
  obtain ⟨t, rfl⟩ := ry
  obtain ⟨its, r, pl, hz⟩ := I.list (SqL.of hp)
  obtain ⟨w', ew, rw'⟩ := r.get hj
  have hl := r.length
  have hn := line63
  have hjl : j < xs.length := (List.getElem?_eq_some_iff.mp hj).1
  exact wpAny_getItem_list pl.isList (by omega) (by omega) (by simpa using ew) ⟨v, H, I, rw', q⟩
end
section
variable {P : Program} {w : World} {K : Fg} {mg : Str → Option Value} {base : Heap} {T : List (Addr × Str)}
variable {α β γ ε : Type} {H H' : Hp} {σ : L2.St} {te ta tb tc : TE} {Y1 : Hp → V → α → Prop} {Y2 : Hp → V → β → Prop} {Y3 : Hp → V → γ → Prop} {Y : Hp → V → ε → Prop} {Ex : XK} {C : Addr} {m : Str}
/-- the method's receiver -/
def IsO (C : Addr) (m : Str) (Y1 : Hp → V → α → Prop) (T : List (Addr × Str)) (H : Hp) (a : α) : Prop := ∀ H1 v, Rp T H H1 → Y1 H1 v a → ∃ q dx fs, v = V.ref q ∧ H1 q = some (.ins C dx fs) ∧ fs.lookup m = none
theorem ev_m1 {pre : α → Prop} {f : α → ε} {a : α} (h : Ev T Y1 te σ H a) (ho : IsO C m Y1 T H a) (hp : pre a) : Ev T Y (tMeth C m (PSp T (a1 Y1) pre Y f) [] Ex te tNil) σ H (f a) := fun H1 r1 Q q =>
  h H1 r1 _ fun v H2 r2 y => by
    obtain ⟨p, dx, fs, e, hi, hl⟩ := ho H2 v (r1.trans r2) y
    exact ⟨p, dx, fs, e, hi, hl, a, ⟨v, rfl, y⟩, hp, fun u H3 r3 z => q u H3 (r2.trans r3) z⟩
theorem ev_m2 [Mono T Y1] {pre : α × β → Prop} {f : α × β → ε} {a : α} {b : β} (h : Ev T Y1 te σ H a) (ho : IsO C m Y1 T H a) (h2 : Ev T Y2 ta σ H b) (hp : pre (a, b)) : Ev T Y (tMeth C m (PSp T (a2 Y1 Y2) pre Y f) [] Ex te (tCons ta tNil)) σ H (f (a, b)) := fun H1 r1 Q q =>
  h H1 r1 _ fun v H2 r2 y => by
    obtain ⟨p, dx, fs, e, hi, hl⟩ := ho H2 v (r1.trans r2) y
    exact ⟨p, dx, fs, e, hi, hl, h2 H2 (r1.trans r2) _ fun w H3 r3 z => ⟨(a, b), ⟨v, w, rfl, Mono.mono r3 y, z⟩, hp, fun u H4 r4 x => q u H4 (r2.trans (r3.trans r4)) x⟩⟩
/-! ### what is read off a Deeds object -/
def yDo (E : Tp K mg w T base) (P : Program) : Hp → V → List Deed → Prop := fun H v L => ∃ p k m, v = .ref p ∧ DObj E P H p L k m
instance {E : Tp K mg w T base} : Mono T (yDo E P) := ⟨fun r ⟨p, k, m, e, d⟩ => ⟨p, k, m, e, d.rp r⟩⟩
/-- a deed's id -/
def yid (K : Fg) : Hp → V → Deed → Prop := fun H v x => yk K H v x.id
instance : Imm (yid K) := ⟨fun r h => Imm.imm (Y := yk K) r h⟩
theorem isDo {E : Tp K mg w T base} {L : List Deed} (hm : (["by_id", "time", "kept", "parts", "turn"] : List Str).all (fun g => !(m == g)) = true) : IsO E.C_Deeds m (yDo E P) T H L := fun H1 v r ⟨p, k, m', e, d⟩ => by
  obtain ⟨dx, b, t, u, ms, vs, h1, _⟩ := d.ex
  exact ⟨p, dx, _, e, h1, fl_no hm⟩
theorem paired_id {F : V → Deed → Prop} : ∀ {vs : List V} {L : List Deed}, Paired (yk K H) vs (L.map Deed.id) → Paired (yid K H) vs L
  | _, [], h => by cases h; exact .nil
  | _, x :: L, h => by
    cases h with
    | cons a t => exact .cons a (paired_id (F := F) t)
theorem ev_turn {E : Tp K mg w T base} {L : List Deed} (h : Ev T (yDo E P) te σ H L) : Ev T (yL (yid K)) (tFld K te "turn") σ H L := fun H1 r1 Q q => h H1 r1 _ fun v H2 r2 ⟨p, k, m, e, d⟩ => by
  obtain ⟨dx, b, t, u, ms, vs, h1, h2, h3, h4, h5, h6⟩ := d.ex
  exact ⟨p, E.C_Deeds, dx, _, .ref u, e, h1, E.c_Deeds, E.n_Deeds_turn, fl_turn, q _ H2 r2 ⟨u, vs, rfl, h5, paired_id (F := fun _ _ => True) h6⟩⟩
theorem ev_by {E : Tp K mg w T base} {L : List Deed} (h : Ev T (yDo E P) te σ H L) : ∀ H1, Rp T H H1 → ∀ Q : VK, (∀ v ms H2, Rp T H1 H2 → yM K P w (ydd K) H2 v ms → (∀ x ∈ L, lu ms (tI x.id) = some x) → (∀ q, q ∈ ms.map (·.1) → ∃ x ∈ L, q = tI x.id) → Q v H2) → tFld K te "by_id" σ H1 Q := fun H1 r1 Q q => h H1 r1 _ fun v H2 r2 ⟨p, k, m, e, d⟩ => by
  obtain ⟨dx, b, t, u, ms, vs, h1, h2, h3, h4, h5, h6⟩ := d.ex
  exact ⟨p, E.C_Deeds, dx, _, .ref b, e, h1, E.c_Deeds, E.n_Deeds_by_id, fl_by, q _ ms H2 r2 h2 h3 h4⟩
/-- d.by_id[id] -/
theorem ev_byid {E : Tp K mg w T base} {L : List Deed} {x : Deed} (h : Ev T (yDo E P) te σ H L) (hb : Ev T (yid K) tb σ H x) (hx : x ∈ L) : Ev T (ydd K) (tOp (rSub K P w) (tFld K te "by_id") tb) σ H x := fun H1 r1 Q q =>
  ev_by h H1 r1 _ fun v ms H2 r2 hm hl _ => hb H2 (r1.trans r2) _ fun u H3 r3 y => by
    obtain ⟨a, kvs, e, d, l⟩ := Mono.mono (T := T) r3 hm
    obtain ⟨z, h1, h2⟩ := (lu_val l (tI x.id)).1 x (hl x hx)
    exact .inr (.inr (.inl ⟨a, kvs, tI x.id, z, e, d, keyV_of y (keyI _), h1, q z H3 (r2.trans r3) h2⟩))
/-- k in d.by_id -/
theorem ev_inby {E : Tp K mg w T base} {L : List Deed} {q : List Int} (h : Ev T (yDo E P) te σ H L) (hb : Ev T (yk K) tb σ H q) : Ev T yB (tOp (rInU K P w false) tb (tFld K te "by_id")) σ H (decide (q ∈ L.map Deed.id)) := fun H1 r1 Q k =>
  hb H1 r1 _ fun u H2 r2 y => ev_by h H2 (r1.trans r2) _ fun v ms H3 r3 hm hl hk => by
    obtain ⟨a, kvs, e, d, l⟩ := hm
    refine .inl ⟨a, kvs, tI q, e, d, keyV_of (Mono.mono (T := T) (Y := yk K) r3 y) (keyI _), k _ H3 (r2.trans r3) ?_⟩
    show V.bl (valV kvs (tI q)).isSome = V.bl _
    rw [(lu_val l (tI q)).2]
    congr 1
    by_cases hq : q ∈ L.map Deed.id
    · obtain ⟨x, hx, ex⟩ := List.mem_map.mp hq
      rw [decide_eq_true hq, ← ex, hl x hx]
      rfl
    · rw [decide_eq_false hq]
      cases e2 : lu ms (tI q) with
      | none => rfl
      | some x =>
        obtain ⟨x', hx', e3⟩ := hk _ (lu_key e2)
        exact absurd (List.mem_map.mpr ⟨x', hx', (tI_inj e3).symm⟩) hq
theorem sc_act_of : FnScope ["d", "name"] ["d", "name"] (defScope s_act_of) := ⟨rfl, rfl, rfl, by decide +kernel, rfl, by decide +kernel, by decide +kernel⟩
theorem bd_act_of (E : Tp K mg w T base) : Binds K E.d_act_of ["d", "name"] [] := E.F_act_of.bindsN fun _ _ _ _ _ _ us hl => match us, hl with | [_, _], _ => rfl
def sp_act_of (E : Tp K mg w T base) (P : Program) : Sp := PSp T (a2 (yDo E P) (yid K)) (fun p => p.2 ∈ p.1) (yact K) fun p => p.2.act
theorem ok_act_of (E : Tp K mg w T base) : FnOk P w K mg base CX0 1 E.f_act_of E.d_act_of ["d", "name"] (sp_act_of E P) :=
  ok_rets E.F_act_of sc_act_of (fun _ _ _ h => len2 h) fun cdv Ar outer s H Ex hr => ⟨_, PSs.nox (pss_one (ps_ret (pe_ix (ix_any (hu9 hr)) (pe_ix (ix_any (hu9 hr)) (pe_fld (pv 0) (by rfl)) (pv 1) (fun _ _ => by rfl)) pe_int (fun _ _ => by rfl)))), fun vs p ⟨v, u, e, y, z⟩ hx => by
    subst e
    exact rt_ret (ev_act (ev_byid (K := K) (P := P) (w := w) (ev_var rfl y) (ev_var rfl z) hx) ev_int)⟩
theorem sc_Deeds_in_turn : FnScope ["self", "one"] ["self"] (defScope s_Deeds_in_turn) := ⟨rfl, rfl, rfl, by decide +kernel, rfl, by decide +kernel, by decide +kernel⟩
theorem bd_Deeds_in_turn (E : Tp K mg w T base) : Binds K E.d_Deeds_in_turn ["self"] [] := E.F_Deeds_in_turn.bindsN fun _ _ _ _ _ _ us hl => match us, hl with | [_], _ => rfl
def sp_in_turn (E : Tp K mg w T base) (P : Program) : Sp := PSp T (a1 (yDo E P)) (fun L => L.length ≤ 1000) (yT K (ydd K)) id
theorem ok_Deeds_in_turn (E : Tp K mg w T base) : FnOk P w K mg base CX0 1 E.f_Deeds_in_turn E.d_Deeds_in_turn ["self"] (sp_in_turn E P) :=
  ok_rets E.F_Deeds_in_turn sc_Deeds_in_turn (fun _ _ _ h => len1 h) fun cdv Ar outer s H Ex hr => ⟨_, PSs.nox (pss_one (ps_ret (pe_callTy call_tuple_of (by rfl) E.tuple (by decide +kernel) (pa_cons (pe_lc (own := [("one", 1)]) (g := gName 1) (tt := tYes) rfl sc_Deeds_in_turn.nd (pi_list (pe_fld (pv 0) (by rfl))) (blkOk_by (own := [("one", 1)]) (N := ["self", "one"]) (sc := defScope s_Deeds_in_turn) (by decide +kernel)) (fun _ _ _ _ _ => (pg_name (i := 1) sc_Deeds_in_turn.nd rfl (.inl rfl))) (fun _ _ _ _ _ => pts_nil) (fun _ _ _ _ _ => (pe_ix (ix_anyK K P w (hu9 hr) (by rfl) (by rfl) (by rfl)) (pe_fldK K (pv 0) (by rfl) (by rfl)) (pv 1) (fun _ _ => by rfl)))) pa_nil)))), fun vs L ⟨v, e, y⟩ hl => by
    subst e
    have hv : Ev T (yDo E P) (tVar 0) (start ["self", "one"] [v]) H L := ev_var rfl y
    refine rt_retE (ev_tuple (ev_lm (id : Deed → Deed) (evi_list (ev_turn hv)) (fun x hx u H1 r1 z => ev_byid (E := E) (P := P) (ev_var rfl (Mono.mono r1 y)) (ev_var rfl z) hx) (fun _ => rfl) (Nat.le_trans hl (by decide)))) (List.map_id L)⟩
end
end K20
namespace K20
open PySem PySem.Spec PyProof.Rows L2
section
variable {P : Program} {w : World} {K : Fg} {mg : Str → Option Value} {base : Heap} {T : List (Addr × Str)} {H : Hp} {σ : L2.St} {te : TE}
theorem sc_Deeds_is_block : FnScope ["self", "block"] ["self", "block"] (defScope s_Deeds_is_block) := ⟨rfl, rfl, rfl, by decide +kernel, rfl, by decide +kernel, by decide +kernel⟩
theorem bd_Deeds_is_block (E : Tp K mg w T base) : Binds K E.d_Deeds_is_block ["self", "block"] [] := E.F_Deeds_is_block.bindsN fun _ _ _ _ _ _ us hl => match us, hl with | [_, _], _ => rfl
def IsBlockB (L : List Deed) (b : List Int) : Bool := decide (b = root) || (L.any fun x => decide (x.id = b) && decide (x.act.word = "block"))
theorem isBlockB {L : List Deed} {b : List Int} : IsBlockB L b = true ↔ IsBlock L b := by
  unfold IsBlockB IsBlock
  rw [Bool.or_eq_true, decide_eq_true_eq, List.any_eq_true]
  refine or_congr Iff.rfl ⟨fun ⟨x, hx, e⟩ => ?_, fun ⟨x, hx, e1, c, e2⟩ => ⟨x, hx, by rw [decide_eq_true e1, e2]; exact (by decide +kernel : (true && decide (("block" : Str) = "block")) = true)⟩⟩
  rw [Bool.and_eq_true, decide_eq_true_eq, decide_eq_true_eq] at e
  refine ⟨x, hx, e.1, ?_⟩
  cases ha : x.act with
  | bk c => exact ⟨c, rfl⟩
  | wr b l r m =>
    rw [ha] at e
    exact absurd e.2 (by decide +kernel : ¬ (("write" : Str) = "block"))
theorem word_ok (a : Act) : okD (.text a.word) = true := by
  cases a with
  | wr b l r m => exact (by decide +kernel : okD (.text "write") = true)
  | bk b => exact (by decide +kernel : okD (.text "block") = true)
/-- block in by_id and its word is block -/
theorem block_b {L : List Deed} (nd : (L.map Deed.id).Nodup) {b : List Int} (hb : b ∈ L.map Deed.id) : ∃ x ∈ L, x.id = b ∧ (L.any fun x => decide (x.id = b) && decide (x.act.word = "block")) = decide (x.act.word = "block") := by
  obtain ⟨x, hx, e⟩ := List.mem_map.mp hb
  refine ⟨x, hx, e, ?_⟩
  rw [Bool.eq_iff_iff, List.any_eq_true, decide_eq_true_eq]
  constructor
  · rintro ⟨y, hy, q⟩
    rw [Bool.and_eq_true, decide_eq_true_eq, decide_eq_true_eq] at q
    rw [nd_inj nd hx hy (e.trans q.1.symm)]
    exact q.2
  · exact fun q => ⟨x, hx, by rw [decide_eq_true e, decide_eq_true q]; rfl⟩
theorem block_no {L : List Deed} {b : List Int} (hb : b ∉ L.map Deed.id) : (L.any fun x => decide (x.id = b) && decide (x.act.word = "block")) = false := by
  rw [List.any_eq_false]
  intro x hx q
  rw [Bool.and_eq_true, decide_eq_true_eq] at q
  exact hb (List.mem_map.mpr ⟨x, hx, q.1⟩)
def sp_m_is_block (E : Tp K mg w T base) (P : Program) : Sp := PSp T (a2 (yDo E P) (yk K)) (fun p => (p.1.map Deed.id).Nodup) yB fun p => IsBlockB p.1 p.2
theorem ok_Deeds_is_block (E : Tp K mg w T base) : FnOk P w K mg base CX0 1 E.f_Deeds_is_block E.d_Deeds_is_block ["self", "block"] (sp_m_is_block E P) :=
  ok_rets E.F_Deeds_is_block sc_Deeds_is_block (fun _ _ _ h => len2 h) fun cdv Ar outer s H Ex hr => ⟨_, PSs.nox (pss_one (ps_ret (pe_or (pe_cmpR (op_eqK (hu64 hr)) (pv 1) (pe_glob (by rfl) E.g_ROOT_deeds E.r_ROOT_deeds) (nomark _)) (pe_one (pe_and (pe_cmpR (op_inU (hu9 hr)) (pv 1) (pe_fld (pv 0) (by rfl)) (by rfl)) (pe_one (pe_cmpR (op_eqK (hu64 hr)) (pe_ix (ix_any (hu9 hr)) (pe_ix (ix_any (hu9 hr)) (pe_ix (ix_any (hu9 hr)) (pe_fld (pv 0) (by rfl)) (pv 1) (fun _ _ => by rfl)) pe_int (fun _ _ => by rfl)) pe_int (fun _ _ => by rfl)) pe_str (nomark _)))))))), fun vs p ⟨v, u, e, y, z⟩ nd => by
    subst e
    obtain ⟨L, b⟩ := p
    have hv : Ev T (yDo E P) (tVar 0) (start ["self", "block"] [v, u]) H L := ev_var rfl y
    have hb : Ev T (yk K) (tVar 1) (start ["self", "block"] [v, u]) H b := ev_var rfl z
    by_cases hm : b ∈ L.map Deed.id
    · obtain ⟨x, hx, ex, eb⟩ := block_b nd hm
      have hb2 : Ev T (yid K) (tVar 1) (start ["self", "block"] [v, u]) H x := ev_var rfl (by show yk K H u x.id; rw [ex]; exact z)
      refine rt_retE (ev_orV (ev_eqk hb (ev_tc E.q_ROOT_deeds)) fun _ => ev_andV (ev_inby hv hb) fun _ => ev_eqT (ev_word (ev_act (ev_byid (E := E) (P := P) hv hb2 hx) ev_int) ev_int) ev_str (word_ok _) (by decide +kernel)) ?_
      show _ = (decide (b = root) || _)
      rw [eb, decide_eq_true hm]
      rfl
    · refine rt_retE (ev_orV (ev_eqk hb (ev_tc E.q_ROOT_deeds)) fun _ => ev_andV (b := true) (ev_inby hv hb) fun h => absurd (of_decide_eq_true h) hm) ?_
      show _ = (decide (b = root) || _)
      rw [block_no hm, decide_eq_false hm]
      rfl⟩
theorem sc_is_block : FnScope ["d", "block"] ["d", "block"] (defScope s_is_block) := ⟨rfl, rfl, rfl, by decide +kernel, rfl, by decide +kernel, by decide +kernel⟩
theorem bd_is_block (E : Tp K mg w T base) : Binds K E.d_is_block ["d", "block"] [] := E.F_is_block.bindsN fun _ _ _ _ _ _ us hl => match us, hl with | [_, _], _ => rfl
def sp_is_block (E : Tp K mg w T base) (P : Program) : Sp := PSp T (a2 (yDo E P) (yk K)) (fun p => (p.1.map Deed.id).Nodup) yB fun p => IsBlockB p.1 p.2
theorem ok_is_block (E : Tp K mg w T base) : FnOk P w K mg base CX0 2 E.f_is_block E.d_is_block ["d", "block"] (sp_is_block E P) :=
  ok_rets E.F_is_block sc_is_block (fun _ _ _ h => len2 h) fun cdv Ar outer s H Ex hr => ⟨_, PSs.nox (pss_one (ps_ret (pe_or (pe_cmpR (op_eqK (hu64 hr)) (pv 1) (pe_glob (by rfl) E.g_ROOT_core_signs E.r_ROOT_core_signs) (nomark _)) (pe_one (pe_and (pe_cmpR (op_inU (hu9 hr)) (pv 1) (pe_fld (pv 0) (by rfl)) (by rfl)) (pe_one (pe_cmpR (op_eqK (hu64 hr)) (pe_ix (ix_any (hu9 hr)) (pe_call (ok_act_of (T := T) E) (hr.mono (by decide)) (by rfl) E.g_act_of E.F_act_of.kp (bd_act_of E) .nil pass0 (pa_cons (pv 0) (pa_cons (pv 1) pa_nil))) pe_int (fun _ _ => by rfl)) pe_str (nomark _)))))))), fun vs p ⟨v, u, e, y, z⟩ nd => by
    subst e
    obtain ⟨L, b⟩ := p
    have hv : Ev T (yDo E P) (tVar 0) (start ["d", "block"] [v, u]) H L := ev_var rfl y
    have hb : Ev T (yk K) (tVar 1) (start ["d", "block"] [v, u]) H b := ev_var rfl z
    by_cases hm : b ∈ L.map Deed.id
    · obtain ⟨x, hx, ex, eb⟩ := block_b nd hm
      have hb2 : Ev T (yid K) (tVar 1) (start ["d", "block"] [v, u]) H x := ev_var rfl (by show yk K H u x.id; rw [ex]; exact z)
      refine rt_retE (ev_orV (ev_eqk hb (ev_tc E.q_ROOT_core_signs)) fun _ => ev_andV (ev_inby hv hb) fun _ => ev_eqT (ev_word (ev_c2 (a := L) (b := x) (Y := yact K) hv hb2 hx) ev_int) ev_str (word_ok _) (by decide +kernel)) ?_
      show _ = (decide (b = root) || _)
      rw [eb, decide_eq_true hm]
      rfl
    · refine rt_retE (ev_orV (ev_eqk hb (ev_tc E.q_ROOT_core_signs)) fun _ => ev_andV (b := true) (ev_inby hv hb) fun h => absurd (of_decide_eq_true h) hm) ?_
      show _ = (decide (b = root) || _)
      rw [block_no hm, decide_eq_false hm]
      rfl⟩
/-! ### clock, is_cut -/
def counts4 (L : List Deed) : List Int := [1, 2, 3, 4].map fun (h : Int) => ((byHand L h).length : Int)
theorem counts_snoc {L : List Deed} {x : Deed} (hh : Hand x.h) : counts4 (L ++ [x]) = (counts4 L).set (x.h - 1).toNat ((counts4 L).getD (x.h - 1).toNat 0 + 1) := by
  obtain ⟨a, b⟩ := hh
  have hc : x.h = 1 ∨ x.h = 2 ∨ x.h = 3 ∨ x.h = 4 := by omega
  have bh : ∀ h, byHand (L ++ [x]) h = byHand L h ++ (if x.h = h then [x] else []) := fun h => by
    unfold byHand
    rw [List.filter_append]
    by_cases e : x.h = h
    · rw [if_pos e]
      simp [e]
    · rw [if_neg e]
      simp [e]
  unfold counts4
  simp only [List.map_cons, List.map_nil, bh, List.length_append]
  rcases hc with e | e | e | e <;> (rw [e]; simp)
theorem sc_Deeds_clock : FnScope ["self", "counts", "one"] ["self"] (defScope s_Deeds_clock) := ⟨rfl, rfl, rfl, by decide +kernel, rfl, by decide +kernel, by decide +kernel⟩
theorem bd_Deeds_clock (E : Tp K mg w T base) : Binds K E.d_Deeds_clock ["self"] [] := E.F_Deeds_clock.bindsN fun _ _ _ _ _ _ us hl => match us, hl with | [_], _ => rfl
def sp_clock (E : Tp K mg w T base) (P : Program) : Sp := PSp T (a1 (yDo E P)) (fun L => ∀ x ∈ L, Hand x.h) (yk K) counts4
theorem ok_Deeds_clock (E : Tp K mg w T base) : FnOk P w K mg base CX0 1 E.f_Deeds_clock E.d_Deeds_clock ["self"] (sp_clock E P) :=
  ok_rets E.F_Deeds_clock sc_Deeds_clock (fun _ _ _ h => len1 h) fun cdv Ar outer s H Ex hr => ⟨_, PSs.nox (pss_cons (ps_set (i := 1) sc_Deeds_clock.nd rfl (.inl rfl) (pe_callTy call_list_of (by rfl) E.list (by decide +kernel) (pa_cons (pe_glob (by rfl) E.g_NOUGHT E.r_NOUGHT) pa_nil))) (pss_cons (ps_for PassesOwn.never rfl (pi_list (pe_fld (pv 0) (by rfl))) (pg_name (i := 2) sc_Deeds_clock.nd rfl (.inl rfl)) (pss_one (ps_augS (pv 1) (pe_op op_sub (pe_ix (ix_any (hu9 hr)) (pv 2) pe_int (fun _ _ => rfl)) pe_int) gl_list pe_int ip_add set_list))) (pss_one (ps_ret (pe_callTy call_tuple_of (by rfl) E.tuple (by decide +kernel) (pa_cons (pv 1) pa_nil)))))), fun vs L ⟨v, e, y⟩ hL => by
    subst e
    intro H0 r0 D k
    refine q_set (ev_listTN (T := T) (ev_kT (ev_tc E.q_NOUGHT))) fun v1 H1 r1 ⟨c, vs1, e1, hc, nc, l1⟩ => ?_
    subst e1
    have z1 := int_map l1
    subst z1
    obtain ⟨p, kk, m, ev, dob⟩ := Mono.mono (r0.trans r1) y
    subst ev
    have dob0 : yDo E P H0 (.ref p) L := Mono.mono r0 y
    obtain ⟨dx, b, t, a, ms, vs, hp, hb1, hb2, hb3, ha, la⟩ := dob.ex
    obtain ⟨p', kk', m', ep, dob0⟩ := dob0
    cases ep
    obtain ⟨dx0, b0, t0, a0, ms0, vs0, hp0, _, _, _, ha0, _⟩ := dob0.ex
    have hpe := r1.ins hp0
    rw [hp] at hpe
    cases hpe
    have nca : a ≠ c := nc.ne ha0 (fun _ z => by cases z)
    refine s_forA (T := T) (Y := yid K) (bs := L) (a := a) (vs := vs) (ev_fld (ev_var (b := V.ref p) rfl rfl) hp E.c_Deeds E.n_Deeds_turn fl_turn rfl) ha (paired_id (F := fun _ _ => True) la) fun H2 r2 => ?_
    refine ⟨fun i σ' H' => Tk H2 H' ∧ H' a = some (.lst vs) ∧ Rp T H0 H' ∧ (∃ hv, σ' = [some (.ref p), some (.ref c), hv]) ∧ H' c = some (.lst ((counts4 (L.take i)).map V.int)), ?_, fun i σ' H' q => ⟨q.1, q.2.1⟩, ?_, ?_⟩
    · exact ⟨Tk.refl _, r2.lst ha, r1.trans r2, ⟨none, rfl⟩, r2.lst hc⟩
    · rintro i x σ' H' xv hi ⟨tk, hal, rI, ⟨hv', eσ⟩, hcI⟩ hx
      subst eσ
      have hh := hL x (List.mem_of_getElem? hi)
      have hid : Ev T (yk K) (tVar 2) [some (.ref p), some (.ref c), some xv] H' [x.h, x.n] := ev_var rfl hx
      refine ⟨.ref c, rfl, ?_⟩
      refine ev_sub (ev_suk (P := P) (w := w) (K := K) hid ev_int rfl) ev_int H' (Rp.refl _) _ fun iv H3 r3 e3 => ?_
      have hj : x.h - 1 = (((x.h - 1).toNat : Nat) : Int) := by have := hh.1; omega
      have jl : (x.h - 1).toNat < 4 := hand4 hh
      have hg : ((counts4 (L.take i)).map V.int)[(x.h - 1).toNat]? = some (.int ((counts4 (L.take i)).getD (x.h - 1).toNat 0)) := by
        rw [List.getElem?_map, List.getD_eq_getElem?_getD]
        have : (x.h - 1).toNat < (counts4 (L.take i)).length := by show _ < 4; exact jl
        rw [List.getElem?_eq_getElem this]
        rfl
      have hc3 := r3.lst hcI
      refine ⟨c, _, (x.h - 1).toNat, _, rfl, by rw [show iv = V.int (x.h - 1) from e3, ← hj], hc3, hg, ?_⟩
      refine ⟨_, _, rfl, rfl, c, _, x.h - 1, (x.h - 1).toNat, rfl, e3, hc3, ?_, ?_⟩
      · unfold ixN
        have l4 : ((counts4 (L.take i)).map V.int).length = 4 := rfl
        rw [if_pos (by have := hh.1; omega), l4, if_pos (by have := hh.2; omega)]
      · refine ⟨(tk.trans r3.tk).trans (Tk.updL hc3), by rw [upd_ne nca]; exact r3.lst hal, (rI.trans r3).chgLN nc hc3, ⟨_, rfl⟩, ?_⟩
        rw [upd_same, take_grow hi, counts_snoc hh, List.map_set]
    · rintro σ' H' ⟨tk, hal, rI, ⟨hv', eσ⟩, hcI⟩
      subst eσ
      rw [List.take_length] at hcI
      refine ev_Tk (ev_tuple (K := K) (T := T) (ev_var (i := 1) (σ := [some (.ref p), some (.ref c), hv']) (Y := yL yI) (b := counts4 L) rfl ⟨c, _, rfl, hcI, paired_ints _⟩)) H' (Rp.refl _) _ fun v5 H5 r5 y5 => k v5 H5 (rI.trans r5) y5⟩
end
end K20
namespace K20
open PySem PySem.Spec PyProof.Rows L2
section
variable {P : Program} {w : World} {K : Fg} {mg : Str → Option Value} {base : Heap} {T : List (Addr × Str)} {H : Hp} {σ : L2.St} {te : TE}
theorem le4_all {a b : List Int} (ha : a.length = 4) (hb : b.length = 4) (h : Le4 a b) : ((a.zip b).all fun q => decide (q.1 ≤ q.2)) = true := by
  have h1 := h 1 ⟨by decide, by decide⟩
  have h2 := h 2 ⟨by decide, by decide⟩
  have h3 := h 3 ⟨by decide, by decide⟩
  have h4 := h 4 ⟨by decide, by decide⟩
  rw [four ha, four hb]
  simp only [List.zip_cons_cons, List.zip_nil_right, List.all_cons, List.all_nil, Bool.and_true, Bool.and_eq_true, decide_eq_true_eq]
  exact ⟨h1, h2, h3, h4⟩
theorem hand_of {i : Nat} {h : Int} (hi : ([1, 2, 3, 4] : List Int)[i]? = some h) : Hand h := by
  have m := List.mem_of_getElem? hi
  simp at m
  unfold Hand
  omega
theorem ck_counts (L : List Deed) {h : Int} (hh : Hand h) : ck (counts4 L) h = (byHand L h).length := by
  obtain ⟨a, b⟩ := hh
  have hc : h = 1 ∨ h = 2 ∨ h = 3 ∨ h = 4 := by omega
  rcases hc with e | e | e | e <;> subst e <;> rfl
theorem sc_Deeds_is_cut : FnScope ["self", "clock", "own", "hand", "number"] ["self", "clock"] (defScope s_Deeds_is_cut) := ⟨rfl, rfl, rfl, by decide +kernel, rfl, by decide +kernel, by decide +kernel⟩
theorem bd_Deeds_is_cut (E : Tp K mg w T base) : Binds K E.d_Deeds_is_cut ["self", "clock"] [] := E.F_Deeds_is_cut.bindsN fun _ _ _ _ _ _ us hl => match us, hl with | [_, _], _ => rfl
def sp_is_cut (E : Tp K mg w T base) (P : Program) : Sp := PSp T (a2 (yDo E P) (yk K)) (fun p => Good p.1 ∧ ∃ x ∈ p.1, p.2 = x.seen) yB fun _ => true
theorem ok_Deeds_is_cut (E : Tp K mg w T base) : FnOk P w K mg base CX0 4 E.f_Deeds_is_cut E.d_Deeds_is_cut ["self", "clock"] (sp_is_cut E P) :=
  ok_rets E.F_Deeds_is_cut sc_Deeds_is_cut (fun _ _ _ h => len2 h) fun cdv Ar outer s H Ex hr => ⟨_, PSs.nox (pss_cons (ps_if (pt_not (pt_val (pe_call (ok_is_clock (T := T) E) (hr.mono (by decide)) (by rfl) E.g_is_clock E.F_is_clock.kp (bd_is_clock E) .nil pass0 (pa_cons (pv 1) pa_nil)))) (pss_one (ps_ret pe_bl)) pss_nil) (pss_cons (ps_set (i := 2) sc_Deeds_is_cut.nd rfl (.inl rfl) (pe_meth0 (pv 0) E.c_Deeds E.m_Deeds_clock (ok_Deeds_clock (T := T) E) (hr.mono (by decide)) (bd_Deeds_clock E) .nil pass0)) (pss_cons (ps_for PassesOwn.never rfl (pi_tup (pe_glob (by rfl) E.g_HANDS_clocks E.r_HANDS_clocks)) (pg_name (i := 3) sc_Deeds_is_cut.nd rfl (.inl rfl)) (pss_cons (ps_set (i := 4) sc_Deeds_is_cut.nd rfl (.inl rfl) (pe_ix (ix_any (hu9 hr)) (pv 1) (pe_op op_sub (pv 3) pe_int) (fun _ _ => by rfl))) (pss_cons (ps_if (pt_cmpR op_gt (pv 4) (pe_ix (ix_any (hu9 hr)) (pv 2) (pe_op op_sub (pv 3) pe_int) (fun _ _ => by rfl)) (nomark _)) (pss_one (ps_ret pe_bl)) pss_nil) (pss_one (ps_if (PW.pt (pw_and (pt_cmpR op_gt (pv 4) pe_int (nomark _)) (pw_and1 (pt_not (pt_val (pe_call (ok_is_within (T := T) E) (hr.mono (by decide)) (by rfl) E.g_is_within E.F_is_within.kp (bd_is_within E) .nil pass0 (pa_cons (pe_ix (ix_any (hu9 hr)) (pe_ix (ix_any (hu9 hr)) (pe_fld (pv 0) (by rfl)) (pe_tup (pa_cons (pv 3) (pa_cons (pv 4) pa_nil))) (fun _ _ => by rfl)) pe_int (fun _ _ => by rfl)) (pa_cons (pv 1) pa_nil)))))))) (pss_one (ps_ret pe_bl)) pss_nil))))) (pss_one (ps_ret pe_bl))))), fun vs p ⟨v, u, e, y, z⟩ ⟨g, x, hx, ec⟩ => by
    subst e
    obtain ⟨L, c⟩ := p
    have ec : c = x.seen := ec
    subst ec
    have hxo := g.ok x hx
    refine rt_no (evT_eq (et_not (et_B (ev_c1 (a := x.seen) (ev_var rfl z) ⟨hxo.len, hxo.pos⟩))) rfl) ?_
    refine rt_set (ev_m1 (Y := yk K) (a := L) (ev_var rfl y) (isDo (by decide +kernel)) fun x hx => (g.ok x hx).hand) fun o H1 r1 yo => ?_
    intro H0 r0 En k
    have y0 := Mono.mono (T := T) (Y := yDo E P) (r1.trans r0) y
    have z0 := Mono.mono (T := T) (Y := yk K) (r1.trans r0) z
    have o0 := Mono.mono (T := T) (Y := yk K) r0 yo
    refine f_for (T := T) (Y := yI) (bs := [1, 2, 3, 4]) (evi_tup (ev_kT (ev_tc E.q_HANDS_clocks))) (fun i σ' => ∃ hv nv, σ' = [some v, some u, some o, hv, nv]) ⟨none, none, rfl⟩ fun H2 r2 => ⟨?_, ?_⟩
    · rintro i h σ' H' xv hi r3 ⟨hv, nv, eσ⟩ ex
      subst eσ
      obtain rfl : xv = V.int h := ex
      have hh := hand_of hi
      have r03 := r2.trans r3
      refine q_set (T := T) (Y := yI) (a := ck x.seen h) (ev_suk (K := K) (P := P) (w := w) (k := x.seen) (ev_var (i := 1) rfl (Mono.mono (T := T) (Y := yk K) r03 z0)) (ev_sub (ev_var (i := 3) (b := h) rfl rfl) ev_int) (ck_at hxo.len hh)) fun nv' H4 r4 en => ?_
      obtain rfl : nv' = V.int (ck x.seen h) := en
      have r04 := r03.trans r4
      generalize hσ : ([some v, some u, some o, some (V.int h), some (V.int (ck x.seen h))] : L2.St) = σ4
      show tSeq _ _ _ ([some v, some u, some o, some (V.int h), some (V.int (ck x.seen h))] : L2.St) H4
      rw [hσ]
      have en : ∀ H5, Ev T yI (tVar 4) σ4 H5 (ck x.seen h) := fun _ => ev_var (by rw [← hσ]; rfl) rfl
      have eh : ∀ H5, Ev T yI (tVar 3) σ4 H5 h := fun _ => ev_var (by rw [← hσ]; rfl) rfl
      have eo : Ev T (yk K) (tVar 2) σ4 H4 (counts4 L) := ev_var (by rw [← hσ]; rfl) (Mono.mono (T := T) (Y := yk K) r04 o0)
      refine q_ifs (T := T) (c := false) (evT_eq (et_test (ev_cmp (en _) (ev_suk (K := K) (P := P) (w := w) eo (ev_sub (eh _) ev_int) (ck_at (c := counts4 L) rfl hh)))) ?_) (fun z => by cases z) fun _ H5 r5 => ?_
      · rw [ck_counts L hh]
        have : ck x.seen h ≤ (byHand L h).length := g.count hx hh
        exact decide_eq_false (by omega)
      · refine q_if (T := T) (c := false) (evT_eq (et_and (et_test (ev_cmp (en _) ev_int)) fun hpos => et_not (et_B (b := true) ?_)) ?_) (fun z => by cases z) fun _ H6 r6 => ⟨(r3.trans r4).trans (r5.trans r6), _, _, hσ.symm⟩
        · have hpos : 0 < ck x.seen h := of_decide_eq_true hpos
          obtain ⟨q, hq, eq, le, _⟩ := g.find hx hh (m := ck x.seen h) (by omega) (Int.le_refl _)
          have r05 := r04.trans r5
          refine ev_eq (ev_c2 (a := q.seen) (b := x.seen) (ev_seen (K := K) (P := P) (w := w) (ev_byid (E := E) (P := P) (x := q) (ev_var (i := 0) (by rw [← hσ]; rfl) (Mono.mono r05 y0)) (ev_ck (k := [h, ck x.seen h]) (e := q.id) (ev_tupk (eds_cons (eh _) (eds_cons (en _) eds_nil)) (by show 2 ≤ sizeLine; decide)) eq.symm) hq) ev_int) (ev_var (i := 1) (by rw [← hσ]; rfl) (Mono.mono (T := T) (Y := yk K) r05 z0)) (by show q.seen.length ≤ 4; rw [(g.ok q hq).len]; exact Nat.le_refl _)) ?_
          exact le4_all (g.ok q hq).len hxo.len le
        · cases (decide (ck x.seen h > 0)) <;> rfl
    · rintro σ' H' r3 ⟨hv, nv, eσ⟩
      exact (rt_ret (T := T) (Y := yB) (σ := σ') ev_bl).go fun v H2 r4 y4 => k v H2 ((r2.trans r3).trans r4) y4⟩
end
end K20
namespace K20
open PySem PySem.Spec PyProof.Rows L2
section
variable {P : Program} {w : World} {K : Fg} {mg : Str → Option Value} {base : Heap} {T : List (Addr × Str)} {H H' : Hp} {σ : L2.St} {te : TE}
theorem hu1 {A : Around} {k : Nat} (hr : Room k A) : A.units + 1 < cLine := by have := hr.un; omega
/-! ### what is kept with a Deeds object -/
def isW (z : Str) (x : Deed) : Bool := decide (x.act.word = z)
def WordsOk (K : Fg) (H : Hp) (v : V) (L : List Deed) : Prop := ∃ (a : Addr) (o : Obj) (ws : List (Key × V)), v = .ref a ∧ H a = some (.frz o (.dK ws)) ∧ (∀ z : Str, valV ws (.inr z) = none → L.filter (isW z) = []) ∧ ∀ (z : Str) (u : V), valV ws (.inr z) = some u → yL (yid K) H u (L.filter (isW z))
def sideS : Bool → Str
  | true => "left"
  | false => "right"
/-- a place: the sign or block above, the side -/
def ypl (K : Fg) : Hp → V → PlC → Prop := fun H v p => yP K (yk K) yS H v (p.1, sideS p.2)
instance : Imm (ypl K) := ⟨fun r h => Imm.imm (Y := yP K (yk K) yS) r h⟩
abbrev ybl (K : Fg) : Hp → V → List (List Int) × List (List Int) → Prop := yP K (yL (yk K)) (yL (yk K))
def flT (pa bo be : Addr) : List (Str × V) := [("parent", .ref pa), ("block_of", .ref bo), ("below", .ref be)]
def ptab (t : TrC) : List (D × PlC) := t.map fun e => (tI e.1, e.2)
structure TreesOk (E : Tp K mg w T base) (P : Program) (av : Addr) (H : Hp) (v : V) (L : List Deed) : Prop where
  ex : ∃ (q dx pa bo be : Addr) (bms : List (D × (List (List Int) × List (List Int)))), v = .ref q ∧ H q = some (.ins E.C_SignTrees dx (flT pa bo be)) ∧ yM K P w (ypl K) H (.ref pa) (ptab (ctree L)) ∧ yM K P w (ybl K) H (.ref be) bms ∧
    (∀ q, IsBlock L q ∨ q ∈ keysC (ctree L) → lu bms (tI q) = some (below (ctree L) q true, below (ctree L) q false)) ∧ pa ≠ av ∧ be ≠ av
def kW : Key := .inr "words"
def kT : Key := .inr "trees"
structure KeptOk (E : Tp K mg w T base) (P : Program) (av : Addr) (H : Hp) (k : Addr) (L : List Deed) (wd tr : Option V) : Prop where
  ex : ∃ kvs : List (Key × V), H k = some (.dK kvs) ∧ kvs.length ≤ wd.isSome.toNat + tr.isSome.toNat ∧ valV kvs kW = wd ∧ valV kvs kT = tr ∧ (∀ v, wd = some v → WordsOk K H v L) ∧ ∀ v, tr = some v → TreesOk E P av H v L
theorem WordsOk.rw_ {v : V} {L : List Deed} (r : Rw H H') (h : WordsOk K H v L) : WordsOk K H' v L := by
  obtain ⟨a, o, ws, e, h1, h2, h3⟩ := h
  exact ⟨a, o, ws, e, r.frz h1, h2, fun z u q => MonoW.mono r (h3 z u q)⟩
theorem TreesOk.rw_ {E : Tp K mg w T base} {av : Addr} {v : V} {L : List Deed} (r : Rw H H') (h : TreesOk E P av H v L) : TreesOk E P av H' v L := by
  obtain ⟨q, dx, pa, bo, be, bms, e, h1, h2, h3, h4, h5, h6⟩ := h.ex
  exact ⟨q, dx, pa, bo, be, bms, e, r.ins h1, MonoW.mono r h2, MonoW.mono r h3, h4, h5, h6⟩
theorem DObj.rw_ {E : Tp K mg w T base} {p : Addr} {L : List Deed} {k m : Addr} (r : Rw H H') (h : DObj E P H p L k m) : DObj E P H' p L k m := by
  obtain ⟨dx, b, t, u, ms, vs, h1, h2, h3, h4, h5, h6⟩ := h.ex
  exact ⟨dx, b, t, u, ms, vs, r.ins h1, MonoW.mono r h2, h3, h4, r.lst h5, Paired.mapP h6 fun _ _ y => Imm.imm (Y := yk K) r.tk y⟩
theorem KeptOk.rp {E : Tp K mg w T base} {av k : Addr} {L : List Deed} {wd tr : Option V} (r : Rp T H H') (h : KeptOk E P av H k L wd tr) : KeptOk E P av H' k L wd tr := by
  obtain ⟨kvs, h1, h2, e1, e2, h3, h4⟩ := h.ex
  exact ⟨kvs, r.keep _ _ h1 (fun _ z => by cases z), h2, e1, e2, fun v e => (h3 v e).rw_ r.rw_, fun v e => (h4 v e).rw_ r.rw_⟩
/-- another one's dict changes -/
theorem KeptOk.rk {E : Tp K mg w T base} {av k k' : Addr} {L : List Deed} {l : List (Key × V)} {wd tr : Option V} (r : Rk T k' H H') (hk : H k' = some (.dK l)) (n : k ≠ k') (h : KeptOk E P av H k L wd tr) : KeptOk E P av H' k L wd tr := by
  obtain ⟨kvs, h1, h2, e1, e2, h3, h4⟩ := h.ex
  exact ⟨kvs, r.keep _ _ n h1 (fun _ z => by cases z), h2, e1, e2, fun v e => (h3 v e).rw_ (r.rw_ hk), fun v e => (h4 v e).rw_ (r.rw_ hk)⟩
theorem KeptOk.dk {E : Tp K mg w T base} {av k : Addr} {L : List Deed} {wd tr : Option V} (h : KeptOk E P av H k L wd tr) : ∃ l, H k = some (.dK l) := by
  obtain ⟨kvs, h1, _⟩ := h.ex
  exact ⟨kvs, h1⟩
theorem ne_WT : kW ≠ kT := fun z => by
  have : ("words" : Str) = "trees" := Sum.inr.inj z
  exact absurd this (by decide +kernel)
theorem put_rw {k : Addr} {kvs : List (Key × V)} {o : HO} (h1 : H k = some (.dK kvs)) : Rw H (upd H k o) := fun a o' e n m => by
  rw [upd_ne (fun z => m kvs (by rw [z, h1] at e; exact (Option.some.inj e).symm))]
  exact e
/-- one more entry -/
theorem KeptOk.putW {E : Tp K mg w T base} {av k : Addr} {L : List Deed} {kvs : List (Key × V)} {v : V} {tr : Option V} (h1 : H k = some (.dK kvs)) (h : KeptOk E P av H k L none tr) (x : WordsOk K H v L) : KeptOk E P av (upd H k (.dK (putK kvs kW v))) k L (some v) tr := by
  obtain ⟨kvs', h1', h2, e1, e2, h3, h4⟩ := h.ex
  rw [h1] at h1'
  cases h1'
  have hl : (putK kvs kW v).length = kvs.length + 1 := by rw [putK_new v e1, List.length_append]; rfl
  refine ⟨_, upd_same, ?_, by rw [valV_put, if_pos rfl], by rw [valV_put, if_neg (Ne.symm ne_WT), e2], fun u e => ?_, fun u e => (h4 u e).rw_ (put_rw h1)⟩
  · rw [hl]
    have : (Option.isSome (none : Option V)).toNat = 0 := rfl
    have : (Option.isSome (some v)).toNat = 1 := rfl
    omega
  · cases e
    exact x.rw_ (put_rw h1)
theorem KeptOk.putT {E : Tp K mg w T base} {av k : Addr} {L : List Deed} {kvs : List (Key × V)} {v : V} {wd : Option V} (h1 : H k = some (.dK kvs)) (h : KeptOk E P av H k L wd none) (x : TreesOk E P av H v L) : KeptOk E P av (upd H k (.dK (putK kvs kT v))) k L wd (some v) := by
  obtain ⟨kvs', h1', h2, e1, e2, h3, h4⟩ := h.ex
  rw [h1] at h1'
  cases h1'
  have hl : (putK kvs kT v).length = kvs.length + 1 := by rw [putK_new v e2, List.length_append]; rfl
  refine ⟨_, upd_same, ?_, by rw [valV_put, if_neg ne_WT, e1], by rw [valV_put, if_pos rfl], fun u e => (h3 u e).rw_ (put_rw h1), fun u e => ?_⟩
  · rw [hl]
    have : (Option.isSome (none : Option V)).toNat = 0 := rfl
    have : (Option.isSome (some v)).toNat = 1 := rfl
    omega
  · cases e
    exact x.rw_ (put_rw h1)
/-! ### named_by -/
/-- the words so far -/
structure WI (K : Fg) (H0 H : Hp) (a : Addr) (M : List Deed) : Prop where
  ex : ∃ ws : List (Key × V), H a = some (.dK ws) ∧ ws.length ≤ M.length ∧ (∀ z : Str, valV ws (.inr z) = none → M.filter (isW z) = []) ∧
    (∀ (z : Str) (u : V), valV ws (.inr z) = some u → ∃ l vs, u = .ref l ∧ H l = some (.lst vs) ∧ Nw H0 l ∧ Paired (yid K H) vs (M.filter (isW z))) ∧ ∀ (z z' : Str) (l : Addr), valV ws (.inr z) = some (.ref l) → valV ws (.inr z') = some (.ref l) → z = z'
theorem filter_snoc {M : List Deed} {x : Deed} {z : Str} : (M ++ [x]).filter (isW z) = M.filter (isW z) ++ if x.act.word = z then [x] else [] := by
  rw [List.filter_append]
  congr 1
  by_cases e : x.act.word = z
  · rw [if_pos e, List.filter_cons_of_pos (by exact decide_eq_true e)]
    rfl
  · rw [if_neg e, List.filter_cons_of_neg (by unfold isW; rw [decide_eq_false e]; decide)]
    rfl
theorem sc_named_by : FnScope ["d", "word", "words", "name"] ["d", "word"] (defScope s_named_by) := ⟨rfl, rfl, rfl, by decide +kernel, rfl, by decide +kernel, by decide +kernel⟩
theorem bd_named_by (E : Tp K mg w T base) : Binds K E.d_named_by ["d", "word"] [] := E.F_named_by.bindsN fun _ _ _ _ _ _ us hl => match us, hl with | [_, _], _ => rfl
def sp_named_by (E : Tp K mg w T base) (P : Program) : Sp := fun vs H Q _ => ∃ (p k m av : Addr) (L : List Deed) (z : Str) (wd tr : Option V), vs = [.ref p, .str z] ∧ DObj E P H p L k m ∧ KeptOk E P av H k L wd tr ∧ L.length ≤ 1000 ∧
  ∀ v H' wv, Rk T k H H' → (∀ w0, wd = some w0 → Rp T H H' ∧ wv = w0) → KeptOk E P av H' k L (some wv) tr → yL (yid K) H' v (L.filter (isW z)) → Q v H'
theorem ok_named_by (E : Tp K mg w T base) : FnOk P w K mg base CX0 2 E.f_named_by E.d_named_by ["d", "word"] (sp_named_by E P) := by
  refine E.F_named_by.ok sc_named_by (fun vs H Q Ex h => ?_) (fun cdv Ar outer s H vs Q Ex hr h => ⟨_, PSs.nox (pss_cons (ps_if (pt_cmpR (op_notinU (hu9 hr)) pe_str (pe_fld (pv 0) (by rfl)) (by rfl)) (pss_cons (ps_set (i := 2) sc_named_by.nd rfl (.inl rfl) pe_dnewK) (pss_cons (ps_for PassesOwn.never rfl (pi_list (pe_fld (pv 0) (by rfl))) (pg_name (i := 3) sc_named_by.nd rfl (.inl rfl)) (pss_one (ps_expr (pe_bm PySem.F.plainAttrs_list PySem.F.slot_list_append PySem.F.type_list_append mt_append (pe_dsetd (pv 2) (pe_ix (ix_any (hu9 hr)) (pe_call (ok_act_of (T := T) E) (hr.mono (by decide)) (by rfl) E.g_act_of E.F_act_of.kp (bd_act_of E) .nil pass0 (pa_cons (pv 0) (pa_cons (pv 3) pa_nil))) pe_int (fun _ _ => by rfl)) (pe_lst pa_nil) ⟨by rfl, by rfl, by rfl, by rfl⟩) (pa_cons (pv 3) pa_nil))))) (pss_one (ps_frz (ps_asg (pv 2) (pg_sub (pe_fld (pv 0) (by rfl)) pe_str (set_dict (hu1 hr)))))))) pss_nil) (pss_one (ps_ret (pe_dget2 (hu1 hr) (pe_ix (ix_any (hu9 hr)) (pe_fld (pv 0) (by rfl)) pe_str (fun _ _ => by rfl)) (pv 1) (pe_lst pa_nil) ⟨by rfl, by rfl, by rfl, by rfl⟩)))), ?_⟩)
  · obtain ⟨p, k, m, av, L, z, wd, tr, rfl, _⟩ := h
    rfl
  obtain ⟨p, k, m, av, L, z, wd, tr, rfl, hd, hk, hlen, kk⟩ := h
  -- what is read at the end
  have fin : ∀ (En : Ends) (σ' : L2.St) (H1 : Hp) (wv : V), (∀ v H', Rp T H1 H' → KeptOk E P av H' k L (some wv) tr → yL (yid K) H' v (L.filter (isW z)) → En.rt v H') → σ'[0]? = some (some (.ref p)) → σ'[1]? = some (some (.str z)) → DObj E P H1 p L k m → KeptOk E P av H1 k L (some wv) tr →
      tRet (tDGet2 (tOp (rSub K P w) (tFld K (tVar 0) "kept") (tC (.str "words"))) (tVar 1) (tLst tNil)) En σ' H1 := fun En σ' H1 wv kf e0 e1 d1 k1 => by
    obtain ⟨kvs, hk1, _, hv, _, h3, _⟩ := k1.ex
    obtain ⟨a, o, ws, ev, ha, hn, hs⟩ := h3 wv rfl
    subst ev
    obtain ⟨dx, b, t, u, ms, vs, h1, _⟩ := d1.ex
    refine ⟨.ref p, e0, p, E.C_Deeds, dx, _, .ref k, rfl, h1, E.c_Deeds, E.n_Deeds_kept, fl_kept, ?_⟩
    refine raw_suS (.inl hk1) hv ⟨a, rfl, .inl ⟨ws, .inr ⟨o, ha⟩⟩, .str z, e1, ⟨by show 0 ≤ sizeLine; decide, fun l hl => ?_⟩⟩
    have r2 : Rp T H1 (upd H1 l (.lst [])) := Rp.new hl
    refine ⟨valV ws (.inr z), .inl ⟨ws, .inr z, .inr ⟨o, r2.rw_.frz ha⟩, rfl, rfl⟩, kf _ _ r2 (k1.rp r2) ?_⟩
    cases q : valV ws (.inr z) with
    | none =>
      rw [hn z q]
      exact ⟨l, [], rfl, upd_same, .nil⟩
    | some u => exact MonoW.mono r2.rw_ (hs z u q)
  obtain ⟨dx, b, t, u, ms, vs, h1, h2, h3, h4, h5, h6⟩ := hd.ex
  obtain ⟨kvs, hk1, hkl, ew, et, hkw, hkt⟩ := hk.ex
  have hself : Ev T yV (tVar 0) (start ["d", "word", "words", "name"] [.ref p, .str z]) H (.ref p) := ev_var rfl rfl
  show tSeq (tIfS (tTest (tOp (rInU K P w true) (tC (.str "words")) (tFld K (tVar 0) "kept"))) _ tNext) _ _ (start ["d", "word", "words", "name"] [.ref p, .str z]) H
  refine ⟨.ref p, rfl, p, E.C_Deeds, dx, _, .ref k, rfl, h1, E.c_Deeds, E.n_Deeds_kept, fl_kept, ?_⟩
  refine raw_inS (.inl hk1) ⟨_, rfl, ?_⟩
  have ew' : valV kvs (.inr "words") = wd := ew
  rw [ew']
  cases wd with
  | some v =>
    refine iteF ?_
    exact fin _ _ H v (fun u H' r kok y => kk u H' v r.rk (fun w0 e => by cases e; exact ⟨r, rfl⟩) kok y) rfl rfl hd hk
  | none =>
    refine iteT ?_
    intro a han
    have rA : Rp T H (upd H a (.dK [])) := Rp.new han
    have wi0 : WI K H (upd H a (.dK [])) a [] := ⟨[], upd_same, Nat.le_refl _, fun _ _ => rfl, fun z u e => (by cases e), fun z z' l e => (by cases e)⟩
    have nwa : Nw H a := Nw.of han
    generalize upd H a (.dK []) = HA at rA wi0
    show tSeq _ _ _ ([some (.ref p), some (.str z), some (.ref a), none] : L2.St) HA
    refine s_forA (T := T) (Y := yid K) (bs := L) (a := u) (vs := vs) (ev_fld (ev_var (i := 0) (b := V.ref p) rfl rfl) (rA.ins h1) E.c_Deeds E.n_Deeds_turn fl_turn rfl) (rA.lst h5) (paired_mono rA (paired_id (F := fun _ _ => True) h6)) fun H2 r2 => ?_
    refine ⟨fun i σ' H' => Tk H2 H' ∧ H' u = some (.lst vs) ∧ Rp T H H' ∧ (∃ hv, σ' = [some (.ref p), some (.str z), some (.ref a), hv]) ∧ WI K H H' a (L.take i), ?_, fun i σ' H' q => ⟨q.1, q.2.1⟩, ?_, ?_⟩
    · obtain ⟨ws, w1, w2, w3, w4, w5⟩ := wi0.ex
      exact ⟨Tk.refl _, r2.lst (rA.lst h5), rA.trans r2, ⟨none, rfl⟩, ⟨ws, r2.keep _ _ w1 (fun _ z => by cases z), w2, w3, fun z u e => (by obtain ⟨l, vs, q1, q2, q3, q4⟩ := w4 z u e; exact ⟨l, vs, q1, r2.lst q2, q3, paired_mono r2 q4⟩), w5⟩⟩
    · rintro i x σ' H' xv hi ⟨tk, hu, rI, ⟨hv, eσ⟩, wi⟩ hx
      subst eσ
      have hxL := List.mem_of_getElem? hi
      obtain ⟨ws, w1, w2, w3, w4, w5⟩ := wi.ex
      have il : i < L.length := (List.getElem?_eq_some_iff.mp hi).1
      have tl : (L.take i).length = i := List.length_take_of_le (Nat.le_of_lt il)
      show tDrop _ _ ([some (.ref p), some (.str z), some (.ref a), some xv] : L2.St) H'
      refine ⟨.ref a, rfl, a, rfl, .inl ⟨ws, .inl w1⟩, ?_⟩
      refine ev_word (K := K) (P := P) (w := w) (T := T) (a := x.act) (ev_c2 (Y := yact K) (Y1 := yDo E P) (Y2 := yid K) (f := fun p => p.2.act) (a := L) (b := x) (ev_var (i := 0) rfl (Mono.mono rI (⟨p, k, m, rfl, hd⟩ : yDo E P H (.ref p) L))) (ev_var (i := 3) rfl hx) hxL) ev_int H' (Rp.refl _) _ fun y H3 r3 ey => ?_
      obtain rfl : y = V.str x.act.word := ey
      refine ⟨by show 0 ≤ sizeLine; decide, fun l hl => ?_⟩
      have r4 : Rp T H' (upd H3 l (.lst [])) := r3.trans (Rp.new hl)
      have hl4 : upd H3 l (.lst []) l = some (.lst []) := upd_same
      have nl : Nw H' l := r3.nw (Nw.of hl)
      generalize upd H3 l (.lst []) = H4 at r4 hl4
      have w14 := r4.keep _ _ w1 (fun _ z => by cases z)
      have w44 : ∀ (z : Str) (u : V), valV ws (.inr z) = some u → ∃ l' vs, u = .ref l' ∧ H4 l' = some (.lst vs) ∧ Nw H l' ∧ l' ≠ l ∧ Paired (yid K H4) vs ((L.take i).filter (isW z)) := fun z u e => by
        obtain ⟨l', vs, q1, q2, q3, q4⟩ := w4 z u e
        exact ⟨l', vs, q1, r4.lst q2, q3, nl.ne q2 (fun _ z => by cases z), paired_mono r4 q4⟩
      have hx4 : yid K H4 xv x := Mono.mono (T := T) r4 hx
      have rI4 := rI.trans r4
      have nl0 := rI.nw nl
      have hu4 := r4.lst hu
      refine ⟨ws, .inr x.act.word, w14, rfl, Nat.lt_of_le_of_lt (by rw [tl] at w2; omega : ws.length ≤ 1000) (by decide), fun v hv => ?_, fun hn => ?_⟩
      · obtain ⟨l', vs', q1, q2, q3, q4, q5⟩ := w44 _ v hv
        subst q1
        have ual : u ≠ l' := q3.ne h5 (fun _ z => by cases z)
        have aal : a ≠ l' := ne_of w14 q2 (fun z => by cases z)
        have tk4 : Tk H4 (upd H4 l' (.lst (vs' ++ [xv]))) := Tk.updL q2
        refine ⟨.inl ⟨rfl, _, SqL.of q2⟩, xv, rfl, l', vs', xv, rfl, rfl, q2, ?_, ?_⟩
        · rw [q5.length]
          exact Nat.lt_of_le_of_lt (Nat.le_trans (List.length_filter_le _ _) (by rw [tl]; omega : (L.take i).length ≤ 1000)) (by decide)
        · refine ⟨(tk.trans r4.tk).trans tk4, by rw [upd_ne ual]; exact hu4, rI4.chgLN q3 q2, ⟨_, rfl⟩, ws, by rw [upd_ne aal]; exact w14, ?_, fun z e => ?_, fun z' u' e => ?_, w5⟩
          · rw [take_grow hi, List.length_append]
            omega
          · rw [take_grow hi, filter_snoc, w3 z e, if_neg (fun q => by rw [← q] at e; rw [hv] at e; cases e)]
            rfl
          · rw [take_grow hi, filter_snoc]
            obtain ⟨l2, vs2, p1, p2, p3, p4, p5⟩ := w44 z' u' e
            subst p1
            by_cases hz : x.act.word = z'
            · subst hz
              rw [hv] at e
              cases e
              rw [q2] at p2
              cases p2
              rw [if_pos rfl]
              exact ⟨l', vs' ++ [xv], rfl, upd_same, q3, paired_imm tk4 (paired_snoc p5 hx4)⟩
            · rw [if_neg hz, List.append_nil]
              have nn : l2 ≠ l' := fun q => hz (w5 _ _ l' hv (by rw [← q]; exact e))
              exact ⟨l2, vs2, rfl, by rw [upd_ne nn]; exact p2, p3, paired_imm tk4 p5⟩
      · have al : a ≠ l := ne_of w14 hl4 (fun z => by cases z)
        have ual : u ≠ l := nl0.ne h5 (fun _ z => by cases z)
        have uaa : u ≠ a := nwa.ne h5 (fun _ z => by cases z)
        have tk5 : Tk H4 (upd H4 a (.dK (putK ws (.inr x.act.word) (.ref l)))) := Tk.upd w14 (fun _ z => by cases z) (fun _ _ z => by cases z)
        have r5 := rI4.chgKN (o := .dK (putK ws (.inr x.act.word) (.ref l))) nwa w14
        have l5 : upd H4 a (.dK (putK ws (.inr x.act.word) (.ref l))) l = some (.lst []) := by rw [upd_ne (Ne.symm al)]; exact hl4
        have a5 : upd H4 a (.dK (putK ws (.inr x.act.word) (.ref l))) a = some (.dK (putK ws (.inr x.act.word) (.ref l))) := upd_same
        have w45 : ∀ (z : Str) (u : V), valV ws (.inr z) = some u → ∃ l' vs, u = .ref l' ∧ upd H4 a (.dK (putK ws (.inr x.act.word) (.ref l))) l' = some (.lst vs) ∧ Nw H l' ∧ l' ≠ l ∧ Paired (yid K (upd H4 a (.dK (putK ws (.inr x.act.word) (.ref l))))) vs ((L.take i).filter (isW z)) := fun z u e => by
          obtain ⟨l', vs, q1, q2, q3, q4, q5⟩ := w44 z u e
          exact ⟨l', vs, q1, by rw [upd_ne (ne_of q2 w14 (fun z => by cases z))]; exact q2, q3, q4, paired_imm tk5 q5⟩
        have hx5 := Imm.imm (Y := yid K) tk5 hx4
        have hu5 : upd H4 a (.dK (putK ws (.inr x.act.word) (.ref l))) u = some (.lst vs) := by rw [upd_ne uaa]; exact hu4
        have tk05 := (tk.trans r4.tk).trans tk5
        clear tk5 w44 hx4
        generalize upd H4 a (.dK (putK ws (.inr x.act.word) (.ref l))) = H5 at r5 l5 a5 w45 hx5 hu5 tk05
        have tk6 : Tk H5 (upd H5 l (.lst [xv])) := Tk.updL l5
        refine ⟨.inl ⟨rfl, _, SqL.of l5⟩, xv, rfl, l, [], xv, rfl, rfl, l5, by show 0 < sizeLine; decide, ?_⟩
        refine ⟨tk05.trans tk6, by rw [upd_ne ual]; exact hu5, r5.chgLN nl0 l5, ⟨_, rfl⟩, _, by rw [upd_ne al]; exact a5, ?_, fun z e => ?_, fun z' u' e => ?_, fun z z' l2 e e' => ?_⟩
        · have := length_putK ws (.inr x.act.word) (.ref l)
          rw [take_grow hi, List.length_append]
          show _ ≤ (L.take i).length + 1
          omega
        · rw [valV_put] at e
          by_cases hz : (Sum.inr z : Key) = .inr x.act.word
          · rw [if_pos hz] at e
            cases e
          · rw [if_neg hz] at e
            rw [take_grow hi, filter_snoc, w3 z e, if_neg (fun q => hz (by rw [q]))]
            rfl
        · rw [valV_put] at e
          rw [take_grow hi, filter_snoc]
          by_cases hz : (Sum.inr z' : Key) = .inr x.act.word
          · rw [if_pos hz] at e
            cases e
            have hz' : z' = x.act.word := Sum.inr.inj hz
            subst hz'
            rw [if_pos rfl, w3 _ hn]
            exact ⟨l, [xv], rfl, upd_same, nl0, paired_imm tk6 (.cons hx5 .nil)⟩
          · rw [if_neg hz] at e
            rw [if_neg (fun q => hz (by rw [q])), List.append_nil]
            obtain ⟨l2, vs2, p1, p2, p3, p4, p5⟩ := w45 z' u' e
            exact ⟨l2, vs2, p1, by rw [upd_ne p4]; exact p2, p3, paired_imm tk6 p5⟩
        · rw [valV_put] at e e'
          by_cases hz : (Sum.inr z : Key) = .inr x.act.word
          · by_cases hz' : (Sum.inr z' : Key) = .inr x.act.word
            · exact Sum.inr.inj (hz.trans hz'.symm)
            · rw [if_pos hz] at e
              rw [if_neg hz'] at e'
              obtain ⟨l3, vs3, p1, p2, p3, p4, p5⟩ := w45 z' _ e'
              cases e
              cases p1
              exact absurd rfl p4
          · by_cases hz' : (Sum.inr z' : Key) = .inr x.act.word
            · rw [if_neg hz] at e
              rw [if_pos hz'] at e'
              obtain ⟨l3, vs3, p1, p2, p3, p4, p5⟩ := w45 z _ e
              cases e'
              cases p1
              exact absurd rfl p4
            · rw [if_neg hz] at e
              rw [if_neg hz'] at e'
              exact w5 _ _ _ e e'
    · rintro σ' H' ⟨tk, hu, rI, ⟨hv, eσ⟩, wi⟩
      subst eσ
      rw [List.take_length] at wi
      obtain ⟨ws, w1, w2, w3, w4, w5⟩ := wi.ex
      refine ⟨a, _, w1, True.intro, fun od => ?_⟩
      have rF := rI.chgKN (o := .frz od (.dK ws)) nwa w1
      have tkF : Tk H' (upd H' a (.frz od (.dK ws))) := Tk.upd w1 (fun _ z => by cases z) (fun _ _ z => by cases z)
      have aF : upd H' a (.frz od (.dK ws)) a = some (.frz od (.dK ws)) := upd_same
      have w4F : ∀ (z : Str) (u : V), valV ws (.inr z) = some u → yL (yid K) (upd H' a (.frz od (.dK ws))) u (L.filter (isW z)) := fun z u e => by
        obtain ⟨l', vs, q1, q2, q3, q4⟩ := w4 z u e
        exact ⟨l', vs, q1, by rw [upd_ne (ne_of q2 w1 (fun z => by cases z))]; exact q2, paired_imm tkF q4⟩
      generalize upd H' a (.frz od (.dK ws)) = HF at rF aF w4F
      have dF := hd.rp rF
      have kF := rF.keep _ _ hk1 (fun _ z => by cases z)
      refine ⟨.ref a, rfl, .ref p, rfl, p, E.C_Deeds, dx, _, .ref k, rfl, rF.ins h1, E.c_Deeds, E.n_Deeds_kept, fl_kept, ?_⟩
      refine ⟨k, _, rfl, .inl ⟨kvs, kW, kF, rfl, ?_, rfl⟩, ?_⟩
      · refine Nat.lt_of_le_of_lt hkl (Nat.lt_of_le_of_lt (Nat.add_le_add (Bool.toNat_le _) (Bool.toNat_le _)) (by decide))
      · have wok : WordsOk K HF (.ref a) L := ⟨a, od, ws, rfl, aF, w3, w4F⟩
        have kok : KeptOk E P av (upd HF k (.dK (putK kvs kW (.ref a)))) k L (some (.ref a)) tr := KeptOk.putW kF (hk.rp rF) wok
        have rk : Rk T k H (upd HF k (.dK (putK kvs kW (.ref a)))) := rF.rk.chg kF
        exact fin _ _ _ (.ref a) (fun u H' r kok' y => kk u H' (.ref a) (rk.trans r.rk) (fun w0 e => by cases e) kok' y) rfl rfl (hd.rw_ (rk.rw_ hk1)) kok
end
end K20
namespace K20
open PySem PySem.Spec PyProof.Rows L2
section
variable {P : Program} {w : World} {K : Fg} {mg : Str → Option Value} {base : Heap} {T : List (Addr × Str)} {H H' : Hp} {σ : L2.St} {te ta tb : TE}
/-! ### pairs -/
section
variable {β γ : Type} {Y : Hp → V → β → Prop} {Z : Hp → V → γ → Prop}
theorem ev_fst [my : Mono T Y] {p : β × γ} (h : Ev T (yP K Y Z) te σ H p) : Ev T Y (tOp (rSub K P w) te (tC (.int 0))) σ H p.1 := fun H1 r1 Q q => h H1 r1 _ fun v H2 r2 ⟨a, x, y, e, s, h1, h2⟩ => .inl ⟨a, [x, y], 0, x, e, rfl, s, rfl, q x H2 r2 h1⟩
theorem ev_snd [my : Mono T Z] {p : β × γ} (h : Ev T (yP K Y Z) te σ H p) : Ev T Z (tOp (rSub K P w) te (tC (.int 1))) σ H p.2 := fun H1 r1 Q q => h H1 r1 _ fun v H2 r2 ⟨a, x, y, e, s, h1, h2⟩ => .inl ⟨a, [x, y], 1, y, e, rfl, s, rfl, q y H2 r2 h2⟩
end
section
variable {α β γ ε : Type} {Y1 : Hp → V → α → Prop} {Y2 : Hp → V → β → Prop} {Y3 : Hp → V → γ → Prop} {Y4 : Hp → V → ε → Prop} {Y : Hp → V → ε → Prop} {Ex : XK} {C : Addr} {m : Str} {tt : TT}
theorem ev_ifE {Z : Hp → V → ε → Prop} {e : ε} {c : Bool} (h : EvT T tt σ H c) (h1 : c = true → Ev T Z ta σ H e) (h2 : c = false → Ev T Z tb σ H e) : Ev T Z (tIf tt ta tb) σ H e := fun H1 r1 Q q => h H1 r1 _ fun H2 r2 => by
  cases c with
  | true => exact iteT (h1 rfl H2 (r1.trans r2) Q fun v H3 r3 y => q v H3 (r2.trans r3) y)
  | false => exact iteF (h2 rfl H2 (r1.trans r2) Q fun v H3 r3 y => q v H3 (r2.trans r3) y)
theorem ev_m3 [Mono T Y1] [Mono T Y2] {pre : α × β × γ → Prop} {f : α × β × γ → ε} {a : α} {b : β} {c : γ} (h : Ev T Y1 te σ H a) (ho : IsO C m Y1 T H a) (h2 : Ev T Y2 ta σ H b) (h3 : Ev T Y3 tb σ H c) (hp : pre (a, b, c)) : Ev T Y (tMeth C m (PSp T (a3 Y1 Y2 Y3) pre Y f) [] Ex te (tCons ta (tCons tb tNil))) σ H (f (a, b, c)) := fun H1 r1 Q q =>
  h H1 r1 _ fun v H2 r2 y => by
    obtain ⟨p, dx, fs, e, hi, hl⟩ := ho H2 v (r1.trans r2) y
    exact ⟨p, dx, fs, e, hi, hl, h2 H2 (r1.trans r2) _ fun w H3 r3 z => h3 H3 (r1.trans (r2.trans r3)) _ fun x H4 r4 o => ⟨(a, b, c), ⟨v, w, x, rfl, Mono.mono (r3.trans r4) y, Mono.mono r4 z, o⟩, hp, fun u H5 r5 x' => q u H5 (r2.trans (r3.trans (r4.trans r5))) x'⟩⟩
end
/-! ### SignTrees: climbing -/
theorem lu_ptab (t : TrC) (s : List Int) : lu (ptab t) (tI s) = lu t s := by
  induction t with
  | nil => rfl
  | cons e t ih =>
    obtain ⟨k, p⟩ := e
    show (if tI k = tI s then some p else lu (ptab t) (tI s)) = if k = s then some p else lu t s
    by_cases h : k = s
    · rw [if_pos (by rw [h]), if_pos h]
    · rw [if_neg (fun z => h (tI_inj z)), if_neg h, ih]
section
variable {pa bo be : Addr}
theorem ft_par : (flT pa bo be).lookup ("parent" : Str) = some (.ref pa) := lk_hit
theorem ft_blk : (flT pa bo be).lookup ("block_of" : Str) = some (.ref bo) := by
  unfold flT
  rw [lk_miss (by decide +kernel), lk_hit]
theorem ft_bel : (flT pa bo be).lookup ("below" : Str) = some (.ref be) := by
  unfold flT
  rw [lk_miss (by decide +kernel), lk_miss (by decide +kernel), lk_hit]
theorem ft_no {f : Str} (h : (["parent", "block_of", "below"] : List Str).all (fun g => !(f == g)) = true) : (flT pa bo be).lookup f = none := by
  simp only [List.all_cons, List.all_nil, Bool.and_true, Bool.and_eq_true, Bool.not_eq_true'] at h
  obtain ⟨h1, h2, h3⟩ := h
  unfold flT
  rw [lk_miss h1, lk_miss h2, lk_miss h3]
  rfl
end
/-- a SignTrees object with these places -/
def yTr (E : Tp K mg w T base) (P : Program) : Hp → V → TrC → Prop := fun H v t => ∃ q dx pa bo be, v = .ref q ∧ H q = some (.ins E.C_SignTrees dx (flT pa bo be)) ∧ yM K P w (ypl K) H (.ref pa) (ptab t)
instance {E : Tp K mg w T base} : Mono T (yTr E P) := ⟨fun r ⟨q, dx, pa, bo, be, e, h, m⟩ => ⟨q, dx, pa, bo, be, e, r.ins h, Mono.mono (T := T) r m⟩⟩
theorem isTr {E : Tp K mg w T base} {t : TrC} {m : Str} (hm : (["parent", "block_of", "below"] : List Str).all (fun g => !(m == g)) = true) : IsO E.C_SignTrees m (yTr E P) T H t := fun H1 v r ⟨q, dx, pa, bo, be, e, h, _⟩ => ⟨q, dx, _, e, h, ft_no hm⟩
theorem ev_par {E : Tp K mg w T base} {t : TrC} (h : Ev T (yTr E P) te σ H t) : Ev T (yM K P w (ypl K)) (tFld K te "parent") σ H (ptab t) := fun H1 r1 Q q => h H1 r1 _ fun v H2 r2 ⟨p, dx, pa, bo, be, e, ho, hm⟩ =>
  ⟨p, E.C_SignTrees, dx, _, .ref pa, e, ho, E.c_SignTrees, E.n_SignTrees_parent, ft_par, q _ H2 r2 hm⟩
/-- self.parent[sign] -/
theorem ev_plc {E : Tp K mg w T base} {t : TrC} {s : List Int} {p : PlC} (h : Ev T (yTr E P) te σ H t) (hs : Ev T (yk K) tb σ H s) (e : lu t s = some p) : Ev T (ypl K) (tOp (rSub K P w) (tFld K te "parent") tb) σ H p := ev_suK (ev_par h) (ev_kD hs) (keyI _) (by rw [lu_ptab]; exact e)
theorem ev_over {E : Tp K mg w T base} {t : TrC} {s : List Int} {p : PlC} (h : Ev T (yTr E P) te σ H t) (hs : Ev T (yk K) tb σ H s) (e : lu t s = some p) : Ev T (yk K) (tOp (rSub K P w) (tOp (rSub K P w) (tFld K te "parent") tb) (tC (.int 0))) σ H p.1 :=
  ev_fst (Y := yk K) (Z := yS) (p := (p.1, sideS p.2)) (ev_plc h hs e)
theorem sc_SignTrees_is_above : FnScope ["self", "high", "sign", "over"] ["self", "high", "sign"] (defScope s_SignTrees_is_above) := ⟨rfl, rfl, rfl, by decide +kernel, rfl, by decide +kernel, by decide +kernel⟩
theorem bd_SignTrees_is_above (E : Tp K mg w T base) : Binds K E.d_SignTrees_is_above ["self", "high", "sign"] [] := E.F_SignTrees_is_above.bindsN fun _ _ _ _ _ _ us hl => match us, hl with | [_, _, _], _ => rfl
def sp_is_above (E : Tp K mg w T base) (P : Program) : Sp := PSp T (a3 (yTr E P) (yk K) (yk K)) (fun p => p.2.2 ∈ keysC p.1 ∧ ∃ n, n ≤ p.1.length + 1 ∧ Dep (lu p.1) p.2.2 n) yB fun p => ancC (lu p.1) (p.1.length + 1) p.2.1 p.2.2
theorem ok_SignTrees_is_above (E : Tp K mg w T base) : FnOk P w K mg base CX0 1 E.f_SignTrees_is_above E.d_SignTrees_is_above ["self", "high", "sign"] (sp_is_above E P) :=
  ok_rets E.F_SignTrees_is_above sc_SignTrees_is_above (fun _ _ _ h => len3 h) fun cdv Ar outer s H Ex hr => ⟨_, PSs.nox (pss_cons (ps_set (i := 3) sc_SignTrees_is_above.nd rfl (.inl rfl) (pe_ix (ix_any (hu9 hr)) (pe_ix (ix_any (hu9 hr)) (pe_fld (pv 0) (by rfl)) (pv 2) (fun _ _ => by rfl)) pe_int (fun _ _ => by rfl))) (pss_cons (ps_while PassesOwn.never (PW.pt (pw_and (pt_cmpR (op_inU (hu9 hr)) (pv 3) (pe_fld (pv 0) (by rfl)) (by rfl)) (pw_and1 (pt_cmpR (op_neK (hu64 hr)) (pv 3) (pv 1) (nomark _))))) (pss_one (ps_set (i := 3) sc_SignTrees_is_above.nd rfl (.inl rfl) (pe_ix (ix_any (hu9 hr)) (pe_ix (ix_any (hu9 hr)) (pe_fld (pv 0) (by rfl)) (pv 3) (fun _ _ => by rfl)) pe_int (fun _ _ => by rfl))))) (pss_one (ps_ret (pe_cmpR (op_eqK (hu64 hr)) (pv 3) (pv 1) (nomark _)))))), fun vs p ⟨v, u, z, e, y1, y2, y3⟩ ⟨hk, n0, hn0, hd0⟩ => by
    subst e
    obtain ⟨t, hi, sn⟩ := p
    have hk : sn ∈ keysC t := hk
    have hd0 : Dep (lu t) sn n0 := hd0
    obtain ⟨pl, epl⟩ := lu_some (t := t) hk
    show Rets T yB _ _ H (ancC (lu t) (t.length + 1) hi sn)
    rw [ancC_dep hd0 _ hn0]
    cases hd0 with
    | top e => rw [epl] at e; cases e
    | @up _ p sd n e hd =>
      rw [epl] at e
      cases e
      have y1 : yTr E P H v t := y1
      have y2 : yk K H u hi := y2
      have y3 : yk K H z sn := y3
      refine rt_set (ev_over (K := K) (P := P) (w := w) (p := (p, sd)) (ev_var (i := 0) rfl y1) (ev_var (i := 2) rfl y3) epl) fun o H1 r1 yo => ?_
      intro H0 r0 En k
      have y1 := Mono.mono (r1.trans r0) y1
      have y2 := Mono.mono (T := T) (Y := yk K) (r1.trans r0) y2
      have yo := Mono.mono (T := T) (Y := yk K) r0 yo
      show tWhile _ _ _ [some v, some u, some z, some o] H0
      have ean : ancC (lu t) (n + 1) hi sn = (decide (p = hi) || ancC (lu t) n hi p) := by
        show (match lu t sn with | some (p, _) => decide (p = hi) || ancC (lu t) n hi p | none => false) = _
        rw [epl]
      refine ⟨fun m σ' H' => Rp T H0 H' ∧ ∃ o ol, σ' = [some v, some u, some z, some o] ∧ yk K H' o ol ∧ Dep (lu t) ol m ∧ ancC (lu t) (n + 1) hi sn = (decide (ol = hi) || ancC (lu t) m hi ol), ⟨n, Rp.refl _, o, p, rfl, yo, hd, ean⟩, ?_⟩
      rintro m σ' H' ⟨r2, o', ol, eσ, yo', hd', ea⟩
      subst eσ
      have v0 : Ev T (yTr E P) (tVar 0) [some v, some u, some z, some o'] H' t := ev_var rfl (Mono.mono r2 y1)
      have v1 : Ev T (yk K) (tVar 1) [some v, some u, some z, some o'] H' hi := ev_var rfl (Mono.mono (T := T) (Y := yk K) r2 y2)
      have v3 : Ev T (yk K) (tVar 3) [some v, some u, some z, some o'] H' ol := ev_var rfl yo'
      refine et_and (et_test (ev_inK (K := K) (P := P) (w := w) (n := false) (ev_kD v3) (ev_par v0) (keyI _))) (fun _ => et_test (ev_nek v3 v1)) H' (Rp.refl _) _ fun H3 r3 => ?_
      rw [lu_ptab]
      have stop : (decide (ol = hi)) = ancC (lu t) (n + 1) hi sn → tRet (tOp (rEqK K) (tVar 3) (tVar 1)) En [some v, some u, some z, some o'] H3 := fun es =>
        (rt_retE (T := T) (Y := yB) (ev_eqk (v3.mono r3) (v1.mono r3)) es).go fun v4 H4 r4 y4 => k v4 H4 (r2.trans (r3.trans r4)) y4
      cases hd' with
      | top e =>
        rw [e]
        rw [if_neg (show ¬ ((if false = true then !(Option.isSome (none : Option PlC)) else Option.isSome (none : Option PlC)) && !decide (ol = hi)) = true from by intro q; cases q)]
        refine stop ?_
        rw [ea]
        show _ = (decide (ol = hi) || false)
        rw [Bool.or_false]
      | @up _ p2 sd2 m2 e hd2 =>
        rw [e]
        by_cases hol : ol = hi
        · have e1 : decide (ol = hi) = true := decide_eq_true hol
          rw [e1]
          rw [if_neg (show ¬ ((if false = true then !(Option.isSome (some (p2, sd2))) else Option.isSome (some (p2, sd2))) && !true) = true from by intro q; cases q)]
          refine stop ?_
          rw [ea, e1]
          rfl
        · have e1 : decide (ol = hi) = false := decide_eq_false hol
          rw [e1]
          rw [if_pos (show ((if false = true then !(Option.isSome (some (p2, sd2))) else Option.isSome (some (p2, sd2))) && !false) = true from rfl)]
          refine ⟨fun σ3 H4 => Rp T H0 H4 ∧ ∃ o ol, σ3 = [some v, some u, some z, some o] ∧ yk K H4 o ol ∧ Dep (lu t) ol m2 ∧ ancC (lu t) (n + 1) hi sn = (decide (ol = hi) || ancC (lu t) m2 hi ol), fun σ3 H4 q => ⟨m2, Nat.lt_succ_self _, q⟩, ?_⟩
          refine ev_over (K := K) (P := P) (w := w) (p := (p2, sd2)) (v0.mono r3) (v3.mono r3) e H3 (Rp.refl _) _ fun o2 H4 r4 y4 => ?_
          refine ⟨r2.trans (r3.trans r4), o2, p2, rfl, y4, hd2, ?_⟩
          rw [ea, e1]
          show ancC (lu t) (m2 + 1) hi ol = _
          show (match lu t ol with | some (p, _) => decide (p = hi) || ancC (lu t) m2 hi p | none => false) = _
          rw [e]⟩
/-! ### where a text is hung -/
/-- a sign or nothing -/
def yo (K : Fg) : Hp → V → Option (List Int) → Prop := fun H v o => Dt K H v (oD o)
instance : Imm (yo K) := ⟨fun r h => Imm.imm (Y := yD K) r h⟩
theorem isNo_o (o : Option (List Int)) : isNo (oD o) = o.isNone := by cases o <;> rfl
theorem yo_some {v : V} {l : List Int} (h : yo K H v (some l)) : yk K H v l := h
theorem yo_none {v : V} (h : yo K H v none) : v = .non := Dt.none_inv h
theorem sc_SignTrees_place_between : FnScope ["self", "block", "left", "right"] ["self", "block", "left", "right"] (defScope s_SignTrees_place_between) := ⟨rfl, rfl, rfl, by decide +kernel, rfl, by decide +kernel, by decide +kernel⟩
theorem bd_SignTrees_place_between (E : Tp K mg w T base) : Binds K E.d_SignTrees_place_between ["self", "block", "left", "right"] [] := E.F_SignTrees_place_between.bindsN fun _ _ _ _ _ _ us hl => match us, hl with | [_, _, _, _], _ => rfl
def sp_place (E : Tp K mg w T base) (P : Program) : Sp := PSp T (a4 (yTr E P) (yk K) (yo K) (yo K)) (fun p => ∀ l r, p.2.2.1 = some l → p.2.2.2 = some r → r ∈ keysC p.1 ∧ ∃ n, n ≤ p.1.length + 1 ∧ Dep (lu p.1) r n) (ypl K) fun p => placeC p.1 p.2.1 p.2.2.1 p.2.2.2
theorem ev_pl2 {k : List Int} {b : Bool} {x : Str} (h : Ev T (yk K) ta σ H k) (hb : Ev T yS tb σ H x) (e : x = sideS b) : Ev T (ypl K) (tTup (tCons ta (tCons tb tNil))) σ H (k, b) := by
  subst e
  exact ev_pair (b := k) (c := sideS b) h hb
theorem ok_SignTrees_place_between (E : Tp K mg w T base) : FnOk P w K mg base CX0 2 E.f_SignTrees_place_between E.d_SignTrees_place_between ["self", "block", "left", "right"] (sp_place E P) :=
  ok_rets E.F_SignTrees_place_between sc_SignTrees_place_between (fun _ _ _ h => len4 h) fun cdv Ar outer s H Ex hr => ⟨_, PSs.nox (pss_cons (ps_if (PW.pt (pw_and (pt_cmp (pc_notN (pv 3)) rfl) (pw_and1 (PW.pt (pw_or (pt_cmp (pc_isN (pv 2)) rfl) (pw_or1 (pt_val (pe_meth (pv 0) E.c_SignTrees E.m_SignTrees_is_above (ok_SignTrees_is_above (T := T) E) (hr.mono (by decide)) (bd_SignTrees_is_above E) .nil pass0 (pa_cons (pv 2) (pa_cons (pv 3) pa_nil)))))))))) (pss_one (ps_ret (pe_tup (pa_cons (pv 3) (pa_cons pe_str pa_nil))))) pss_nil) (pss_one (ps_ret (pe_tup (pa_cons (pe_ifExp (pt_cmp (pc_isN (pv 2)) rfl) (pv 1) (pv 2)) (pa_cons pe_str pa_nil)))))), fun vs p ⟨v, u, z, x, e, y1, y2, y3, y4⟩ hp => by
    subst e
    obtain ⟨t, b, l, r⟩ := p
    have y1 : yTr E P H v t := y1
    have y2 : yk K H u b := y2
    have y3 : yo K H z l := y3
    have y4 : yo K H x r := y4
    have hp : ∀ l' r', l = some l' → r = some r' → r' ∈ keysC t ∧ ∃ n, n ≤ t.length + 1 ∧ Dep (lu t) r' n := hp
    have v0 : Ev T (yTr E P) (tVar 0) [some v, some u, some z, some x] H t := ev_var rfl y1
    have v1 : Ev T (yk K) (tVar 1) [some v, some u, some z, some x] H b := ev_var rfl y2
    have v2 : Ev T (yo K) (tVar 2) [some v, some u, some z, some x] H l := ev_var rfl y3
    have v3 : Ev T (yo K) (tVar 3) [some v, some u, some z, some x] H r := ev_var rfl y4
    show Rets T (ypl K) _ [some v, some u, some z, some x] H (placeC t b l r)
    have rest : ∀ q : PlC, q = (l.getD b, false) → Rets T (ypl K) (tRet (tTup (tCons (tIf (tB (tIsN (tVar 2))) (tVar 1) (tVar 2)) (tCons (tC (.str "right")) tNil)))) [some v, some u, some z, some x] H q := fun q eq => by
      subst eq
      refine rt_ret (ev_pl2 (k := l.getD b) ?_ ev_str rfl)
      cases l with
      | none => exact ev_ifE (c := true) (et_B (ev_isN (d := oD none) v2)) (fun _ => v1) (fun z => by cases z)
      | some l' => exact ev_ifE (c := false) (et_B (ev_isN (d := oD (some l')) v2)) (fun z => by cases z) fun _ => v2
    cases r with
    | none =>
      refine rt_no (evT_eq (et_and (et_B (ev_notN (d := oD none) v3)) (b := true) fun z => by cases z) rfl) (rest _ rfl)
    | some r' =>
      have v3' : Ev T (yk K) (tVar 3) [some v, some u, some z, some x] H r' := v3
      have ret1 : ∀ q : PlC, q = (r', true) → Rets T (ypl K) (tSeq (tRet (tTup (tCons (tVar 3) (tCons (tC (.str "left")) tNil)))) (tRet (tTup (tCons (tIf (tB (tIsN (tVar 2))) (tVar 1) (tVar 2)) (tCons (tC (.str "right")) tNil))))) [some v, some u, some z, some x] H q := fun q eq => by
        subst eq
        exact rt_retS (ev_pl2 v3' ev_str rfl)
      cases l with
      | none => exact rt_yes (evT_eq (et_and (et_B (ev_notN (d := oD (some r')) v3)) fun _ => et_or (et_B (ev_isN (d := oD none) v2)) (b := true) fun z => by cases z) rfl) (ret1 _ rfl)
      | some l' =>
        obtain ⟨hk, hn⟩ := hp l' r' rfl rfl
        have tst := et_and (et_B (ev_notN (d := oD (some r')) v3)) fun _ => et_or (et_B (ev_isN (d := oD (some l')) v2)) fun _ => et_B (ev_m3 (T := T) (C := E.C_SignTrees) (m := "is_above") (Ex := E0) (Y := yB) (f := fun p => ancC (lu p.1) (p.1.length + 1) p.2.1 p.2.2) (pre := fun p => p.2.2 ∈ keysC p.1 ∧ ∃ n, n ≤ p.1.length + 1 ∧ Dep (lu p.1) p.2.2 n) (a := t) (b := l') (c := r') v0 (isTr (by decide +kernel)) (show Ev T (yk K) (tVar 2) [some v, some u, some z, some x] H l' from v2) v3' ⟨hk, hn⟩)
        by_cases hu : underC t (some l') r' = true
        · refine rt_yes (evT_eq tst ?_) (ret1 _ ?_)
          · show (true && (false || ancC (lu t) (t.length + 1) l' r')) = true
            rw [show ancC (lu t) (t.length + 1) l' r' = true from hu]
            rfl
          · unfold placeC
            exact if_pos hu
        · refine rt_no (evT_eq tst ?_) (rest _ ?_)
          · show (true && (false || ancC (lu t) (t.length + 1) l' r')) = false
            rw [show ancC (lu t) (t.length + 1) l' r' = false from Bool.eq_false_iff.mpr hu]
            rfl
          · unfold placeC
            exact if_neg hu⟩
end
end K20
namespace K20
open PySem PySem.Spec PyProof.Rows L2
/-! ### all stays but what stands at some addresses -/
structure Rs (T : List (Addr × Str)) (S : Addr → Prop) (H H' : Hp) : Prop where
  keep : ∀ a o, ¬ S a → H a = some o → (∀ ps, o ≠ .tbl ps) → H' a = some o
  tabs : LamX.Tabs T H → LamX.Tabs T H'
section
variable {T : List (Addr × Str)} {S : Addr → Prop} {H H' H0 H1 H2 : Hp} {a k : Addr} {o : HO}
theorem Rs.refl (H : Hp) : Rs T S H H := ⟨fun _ _ _ h _ => h, id⟩
theorem Rs.trans (a : Rs T S H H1) (b : Rs T S H1 H2) : Rs T S H H2 := ⟨fun c o n h t => b.keep c o n (a.keep c o n h t) t, fun t => b.tabs (a.tabs t)⟩
theorem Rp.rs (r : Rp T H H') : Rs T S H H' := ⟨fun a o _ h n => r.keep a o h n, r.tabs⟩
/-- a dict there changes -/
theorem Rs.chgD {K : Fg} {P : Program} {w : World} {kvs : List (D × V)} (r : Rs T S H H1) (hs : S a) (x : DictAt K P w H1 a kvs) : Rs T S H (upd H1 a o) := by
  obtain ⟨u, e, es, ep, hdat⟩ := x.raw
  exact ⟨fun b v n h t => by rw [upd_ne (fun z => n (by rw [z]; exact hs))]; exact r.keep b v n h t, fun t => Rp.tabs_upd (r.tabs t) (fun ps z => by rw [e] at z; exact RawO.noTbl ps (Option.some.inj z)) (fun q z => by rw [e] at z; exact RawO.noCode hdat q (Option.some.inj z))⟩
theorem Rs.chgL {xs : List V} (r : Rs T S H H1) (hs : S a) (h1 : H1 a = some (.lst xs)) : Rs T S H (upd H1 a o) :=
  ⟨fun b v n h t => by rw [upd_ne (fun z => n (by rw [z]; exact hs))]; exact r.keep b v n h t, fun t => Rp.tabs_upd (r.tabs t) (fun ps z => by rw [h1] at z; cases z) (fun q z => by rw [h1] at z; unfold LamX.CodeO at z; cases z)⟩
/-- the changed ones came since -/
theorem Rs.rk (x : Rs T S H1 H2) (r : Rk T k H H1) (n : ∀ a, S a → Nw H a) : Rk T k H H2 := ⟨fun a o e h t => by
  by_cases s : S a
  · obtain ⟨ps, z⟩ := n a s o h
    exact absurd z (t ps)
  · exact x.keep a o s (r.keep a o e h t) t, fun t => x.tabs (r.tabs t)⟩
theorem Rs.rp (x : Rs T S H1 H2) (r : Rp T H H1) (n : ∀ a, S a → Nw H a) : Rp T H H2 := ⟨fun a o h t => by
  by_cases s : S a
  · obtain ⟨ps, z⟩ := n a s o h
    exact absurd z (t ps)
  · exact x.keep a o s (r.keep a o h t) t, fun t => x.tabs (r.tabs t)⟩
end
section
variable {P : Program} {w : World} {K : Fg} {mg : Str → Option Value} {base : Heap} {T : List (Addr × Str)} {H H' H1 : Hp} {σ : L2.St} {te ta tb : TE}
/-! ### a SignTrees object that grows -/
/-- the lists of the table below -/
abbrev Bt := List (D × (Addr × Addr))
def ads (bt : Bt) : List Addr := bt.flatMap fun e => [e.2.1, e.2.2]
def ent (K : Fg) (H : Hp) (p : D × V) (e : D × (Addr × Addr)) : Prop := p.1 = e.1 ∧ ∃ a, p.2 = .ref a ∧ SqT K H a [.ref e.2.1, .ref e.2.2]
def Ls (K : Fg) (H : Hp) (a : Addr) (ks : List (List Int)) : Prop := ∃ vs, H a = some (.lst vs) ∧ Paired (yk K H) vs ks
structure SB (E : Tp K mg w T base) (P : Program) (Hb H : Hp) (q dx pa bo be : Addr) (t : TrC) (bt : Bt) (ct : D → Bool → List (List Int)) : Prop where
  obj : H q = some (.ins E.C_SignTrees dx (flT pa bo be))
  par : yM K P w (ypl K) H (.ref pa) (ptab t)
  blk : ∃ kv, DictAt K P w H bo kv ∧ kv.length ≤ t.length
  bel : ∃ kv, DictAt K P w H be kv ∧ Paired (ent K H) kv bt
  nd : (ads bt).Nodup
  nw : ∀ a ∈ ads bt, Nw Hb a
  cnt : ∀ e ∈ bt, Ls K H e.2.1 (ct e.1 true) ∧ Ls K H e.2.2 (ct e.1 false)
  fr : ∀ a, Nw H a → Nw Hb a
  n1 : pa ≠ bo
  n2 : pa ≠ be
  n3 : bo ≠ be
theorem ads_mem {bt : Bt} {e : D × (Addr × Addr)} (h : e ∈ bt) : e.2.1 ∈ ads bt ∧ e.2.2 ∈ ads bt := ⟨List.mem_flatMap.mpr ⟨e, h, List.mem_cons_self⟩, List.mem_flatMap.mpr ⟨e, h, List.mem_cons_of_mem _ List.mem_cons_self⟩⟩
theorem ads_app (a b : Bt) : ads (a ++ b) = ads a ++ ads b := List.flatMap_append
theorem ads_lst {E : Tp K mg w T base} {Hb : Hp} {q dx pa bo be : Addr} {t : TrC} {bt : Bt} {ct : D → Bool → List (List Int)} (x : SB E P Hb H q dx pa bo be t bt ct) {a : Addr} (h : a ∈ ads bt) : ∃ vs, H a = some (.lst vs) := by
  obtain ⟨e, he, hm⟩ := List.mem_flatMap.mp h
  obtain ⟨⟨v1, h1, _⟩, v2, h2, _⟩ := x.cnt e he
  rcases List.mem_cons.mp hm with z | hm
  · exact ⟨v1, by rw [z]; exact h1⟩
  · rw [List.mem_singleton.mp hm]
    exact ⟨v2, h2⟩
theorem Ls.tk {a : Addr} {ks : List (List Int)} (h : Ls K H a ks) (e : ∀ vs, H a = some (.lst vs) → H' a = some (.lst vs)) (tk : Tk H H') : Ls K H' a ks := by
  obtain ⟨vs, h1, h2⟩ := h
  exact ⟨vs, e vs h1, Paired.mapP h2 fun _ _ y => Imm.imm (Y := yk K) tk y⟩
theorem ent_tk (tk : Tk H H') {kv : List (D × V)} {bt : Bt} (h : Paired (ent K H) kv bt) : Paired (ent K H') kv bt := Paired.mapP h fun _ _ ⟨e, a, ea, s⟩ => ⟨e, a, ea, tk K _ _ s⟩
/-- new things do no harm -/
theorem SB.rp {E : Tp K mg w T base} {Hb : Hp} {q dx pa bo be : Addr} {t : TrC} {bt : Bt} {ct : D → Bool → List (List Int)} (x : SB E P Hb H q dx pa bo be t bt ct) (r : Rp T H H') : SB E P Hb H' q dx pa bo be t bt ct where
  obj := r.ins x.obj
  par := Mono.mono (T := T) r x.par
  blk := by
    obtain ⟨kv, d, l⟩ := x.blk
    exact ⟨kv, d.rp r, l⟩
  bel := by
    obtain ⟨kv, d, l⟩ := x.bel
    exact ⟨kv, d.rp r, ent_tk r.tk l⟩
  nd := x.nd
  nw := x.nw
  cnt := fun e he => ⟨(x.cnt e he).1.tk (fun _ h => r.lst h) r.tk, (x.cnt e he).2.tk (fun _ h => r.lst h) r.tk⟩
  fr := fun a n => x.fr a (r.nw n)
  n1 := x.n1
  n2 := x.n2
  n3 := x.n3
theorem SB.tr {E : Tp K mg w T base} {Hb : Hp} {q dx pa bo be : Addr} {t : TrC} {bt : Bt} {ct : D → Bool → List (List Int)} (x : SB E P Hb H q dx pa bo be t bt ct) : yTr E P H (.ref q) t := ⟨q, dx, pa, bo, be, rfl, x.obj, x.par⟩
def noC : D → Bool → List (List Int) := fun _ _ => []
def in3 (pa bo be : Addr) : Addr → Prop := fun a => a = pa ∨ a = bo ∨ a = be
theorem ptab_snoc (t : TrC) (s : List Int) (pl : PlC) : ptab (t ++ [(s, pl)]) = ptab t ++ [(tI s, pl)] := by
  unfold ptab
  rw [List.map_append]
  rfl
theorem ptab_keys (t : TrC) : (ptab t).map (·.1) = (keysC t).map tI := by
  unfold ptab keysC
  rw [List.map_map, List.map_map]
  rfl
theorem tI_mem {ks : List (List Int)} {s : List Int} : tI s ∈ ks.map tI ↔ s ∈ ks := ⟨fun h => by
  obtain ⟨k, hk, e⟩ := List.mem_map.mp h
  rw [← tI_inj e]
  exact hk, fun h => List.mem_map.mpr ⟨s, h, rfl⟩⟩
theorem ent_keys {kv : List (D × V)} {bt : Bt} (h : Paired (ent K H) kv bt) : kv.map (·.1) = bt.map (·.1) := by
  induction h with
  | nil => rfl
  | cons a _ ih => rw [List.map_cons, List.map_cons, ih, a.1]
theorem paired_snocG {α β : Type} {F : α → β → Prop} {x : α} {y : β} : ∀ {xs : List α} {ys : List β}, Paired F xs ys → F x y → Paired F (xs ++ [x]) (ys ++ [y])
  | _, _, .nil, h => .cons h .nil
  | _, _, .cons a t, h => .cons a (paired_snocG t h)
theorem small {n : Nat} (h : n < 100000) : n < sizeLine := Nat.lt_of_lt_of_le h (by decide)
/-- a pair of new lists -/
def yFP (K : Fg) (H0 : Hp) : Hp → V → Unit → Prop := fun H v _ => ∃ a l1 l2, v = .ref a ∧ SqT K H a [.ref l1, .ref l2] ∧ H l1 = some (.lst []) ∧ H l2 = some (.lst []) ∧ l1 ≠ l2 ∧ Nw H0 l1 ∧ Nw H0 l2
instance {H0 : Hp} : Mono T (yFP K H0) := ⟨fun r ⟨a, l1, l2, e, s, h1, h2, n, m1, m2⟩ => ⟨a, l1, l2, e, r.tup s, r.lst h1, r.lst h2, n, m1, m2⟩⟩
theorem ev_fp : Ev T (yFP K H) (tTup (tCons (tLst tNil) (tCons (tLst tNil) tNil))) σ H () := fun H1 r1 Q q =>
  ⟨by show 0 ≤ sizeLine; decide, fun l1 h1 => ⟨by show 0 ≤ sizeLine; decide, fun l2 h2 => ⟨by show 2 ≤ sizeLine; decide, fun a h3 => by
    have n12 : l1 ≠ l2 := fun e => by rw [← e, upd_same] at h2; cases h2
    have e1 : upd (upd H1 l1 (.lst [])) l2 (.lst []) l1 = some (.lst []) := by rw [upd_ne n12]; exact upd_same
    have r2 : Rp T H1 (upd (upd H1 l1 (.lst [])) l2 (.lst [])) := (Rp.new h1).trans (Rp.new h2)
    have r3 : Rp T (upd (upd H1 l1 (.lst [])) l2 (.lst [])) (upd (upd (upd H1 l1 (.lst [])) l2 (.lst [])) a (.tup [.ref l1, .ref l2])) := Rp.new h3
    exact q _ _ (r2.trans r3) ⟨a, l1, l2, rfl, SqT.of upd_same, r3.lst e1, r3.lst upd_same, n12, r1.nw (Nw.of h1), r1.nw ((Rp.new (T := T) h1).nw (Nw.of h2))⟩⟩⟩⟩
theorem sc_SignTrees_hang : FnScope ["self", "sign", "block", "place"] ["self", "sign", "block", "place"] (defScope s_SignTrees_hang) := ⟨rfl, rfl, rfl, by decide +kernel, rfl, by decide +kernel, by decide +kernel⟩
theorem bd_SignTrees_hang (E : Tp K mg w T base) : Binds K E.d_SignTrees_hang ["self", "sign", "block", "place"] [] := E.F_SignTrees_hang.bindsN fun _ _ _ _ _ _ us hl => match us, hl with | [_, _, _, _], _ => rfl
def sp_hang (E : Tp K mg w T base) (P : Program) : Sp := fun vs H Q _ => ∃ (Hb : Hp) (q dx pa bo be : Addr) (t : TrC) (bt : Bt) (s : List Int) (pl : PlC) (sv bv pv : V), vs = [.ref q, sv, bv, pv] ∧ SB E P Hb H q dx pa bo be t bt noC ∧ yk K H sv s ∧ ypl K H pv pl ∧ s ∉ keysC t ∧ tI s ∉ bt.map (·.1) ∧ t.length < 100000 ∧ bt.length < 100000 ∧
  ∀ H' l1 l2, Rs T (in3 pa bo be) H H' → SB E P Hb H' q dx pa bo be (t ++ [(s, pl)]) (bt ++ [(tI s, (l1, l2))]) noC → Q .non H'
theorem ok_SignTrees_hang (E : Tp K mg w T base) : FnOk P w K mg base CX0 1 E.f_SignTrees_hang E.d_SignTrees_hang ["self", "sign", "block", "place"] (sp_hang E P) := by
  refine E.F_SignTrees_hang.ok sc_SignTrees_hang (fun vs H Q Ex h => ?_) (fun cdv Ar outer s H vs Q Ex hr h => ⟨_, PSs.nox (pss_cons (ps_asg (pv 3) (pg_sub (pe_fld (pv 0) (by rfl)) (pv 1) (set_k (hu9 hr)))) (pss_cons (ps_asg (pv 2) (pg_sub (pe_fld (pv 0) (by rfl)) (pv 1) (set_k (hu9 hr)))) (pss_one (ps_asg (pe_tup (pa_cons (pe_lst pa_nil) (pa_cons (pe_lst pa_nil) pa_nil))) (pg_sub (pe_fld (pv 0) (by rfl)) (pv 1) (set_k (hu9 hr))))))), ?_⟩)
  · obtain ⟨Hb, q, dx, pa, bo, be, t, bt, s, pl, sv, bv, pv, rfl, _⟩ := h
    rfl
  obtain ⟨Hb, q, dx, pa, bo, be, t, bt, s, pl, sv, bv, pv, rfl, x, ys, yp, hs, hb, lt, lb, k⟩ := h
  have C := E.c_SignTrees
  have obj0 := x.obj
  obtain ⟨pd, kvP, epd, dP, lP⟩ := x.par
  cases epd
  obtain ⟨kvB, dB, lB⟩ := x.blk
  obtain ⟨kvE, dE, lE⟩ := x.bel
  have kP : kvP.map (·.1) = (keysC t).map tI := (paired_keys lP).trans (ptab_keys t)
  have lenP : kvP.length = t.length := by
    have z := lP.length
    unfold ptab at z
    rw [List.length_map] at z
    exact z
  show tSeq _ _ _ ([some (.ref q), some sv, some bv, some pv] : L2.St) H
  generalize hσ : ([some (.ref q), some sv, some bv, some pv] : L2.St) = σ
  -- parent
  refine s_setK (T := T) (Y := ypl K) (b := pl) (key := tI s) (ev_var (i := 3) (by rw [← hσ]; rfl) yp) (ev_fld (b := V.ref pa) (ev_var (i := 0) (b := V.ref q) (by rw [← hσ]; rfl) rfl) obj0 C E.n_SignTrees_parent ft_par rfl) (ev_kD (ev_var (i := 1) (by rw [← hσ]; rfl) ys)) (keyI _) dP (by rw [lenP]; exact small lt) fun v1 H1 o1 r1 y1 d1 d1' => ?_
  rw [putK_app (by rw [kP]; exact fun z => hs (tI_mem.mp z))] at d1'
  have RA : Rs T (in3 pa bo be) H (upd H1 pa (RawO pa o1)) := (Rp.rs r1).chgD (.inl rfl) d1
  have tkA : Tk H (upd H1 pa (RawO pa o1)) := r1.tk.trans d1.tk
  have objA : upd H1 pa (RawO pa o1) q = some (.ins E.C_SignTrees dx (flT pa bo be)) := by rw [upd_ne (raw_ne d1 (r1.ins obj0) ins_raw)]; exact r1.ins obj0
  have lPA : Paired (fun (p : D × V) (e : D × PlC) => p.1 = e.1 ∧ ypl K (upd H1 pa (RawO pa o1)) p.2 e.2) (kvP ++ [(tI s, v1)]) (ptab (t ++ [(s, pl)])) := by
    rw [ptab_snoc]
    exact paired_snocK (F := ypl K (upd H1 pa (RawO pa o1))) (Paired.mapP lP fun _ _ ⟨q1, q2⟩ => ⟨q1, Imm.imm (Y := ypl K) tkA q2⟩) (Imm.imm (Y := ypl K) d1.tk y1)
  have dBA := (dB.rp r1).other (o := RawO pa o1) d1 (Ne.symm x.n1)
  have dEA := (dE.rp r1).other (o := RawO pa o1) d1 (Ne.symm x.n2)
  have lsA : ∀ a vs, H a = some (.lst vs) → upd H1 pa (RawO pa o1) a = some (.lst vs) := fun a vs h => by rw [upd_ne (raw_ne d1 (r1.lst h) lst_raw)]; exact r1.lst h
  have frA : ∀ a, Nw (upd H1 pa (RawO pa o1)) a → Nw H a := fun a n => by
    by_cases e : a = pa
    · rw [e] at n
      obtain ⟨ps, z⟩ := n _ upd_same
      exact absurd z (RawO.noTbl ps)
    · exact r1.nw fun o ho => n o (by rw [upd_ne e]; exact ho)
  generalize upd H1 pa (RawO pa o1) = HA at RA tkA objA lPA dBA dEA lsA d1' frA
  have ysA := Imm.imm (Y := yk K) tkA ys
  clear d1 y1 r1 H1
  -- block_of
  refine s_setK (T := T) (H := HA) (Y := yV) (b := bv) (key := tI s) (ev_var (i := 2) (by rw [← hσ]; rfl) rfl) (ev_fld (b := V.ref bo) (ev_var (i := 0) (b := V.ref q) (by rw [← hσ]; rfl) rfl) objA C E.n_SignTrees_block_of ft_blk rfl) (ev_kD (ev_var (i := 1) (by rw [← hσ]; rfl) ysA)) (keyI _) dBA (small (by omega)) fun v2 H2 o2 r2 y2 d2 d2' => ?_
  have RB : Rs T (in3 pa bo be) H (upd H2 bo (RawO bo o2)) := (RA.trans r2.rs).chgD (.inr (.inl rfl)) d2
  have tkB : Tk HA (upd H2 bo (RawO bo o2)) := r2.tk.trans d2.tk
  have objB : upd H2 bo (RawO bo o2) q = some (.ins E.C_SignTrees dx (flT pa bo be)) := by rw [upd_ne (raw_ne d2 (r2.ins objA) ins_raw)]; exact r2.ins objA
  have dPB := (d1'.rp r2).other (o := RawO bo o2) d2 x.n1
  have lPB := Paired.mapP lPA fun _ _ ⟨q1, q2⟩ => (⟨q1, Imm.imm (Y := ypl K) tkB q2⟩ : _ ∧ _)
  have dEB := (dEA.rp r2).other (o := RawO bo o2) d2 (Ne.symm x.n3)
  have lsB : ∀ a vs, H a = some (.lst vs) → upd H2 bo (RawO bo o2) a = some (.lst vs) := fun a vs h => by rw [upd_ne (raw_ne d2 (r2.lst (lsA a vs h)) lst_raw)]; exact r2.lst (lsA a vs h)
  have frB : ∀ a, Nw (upd H2 bo (RawO bo o2)) a → Nw HA a := fun a n => by
    by_cases e : a = bo
    · rw [e] at n
      obtain ⟨ps, z⟩ := n _ upd_same
      exact absurd z (RawO.noTbl ps)
    · exact r2.nw fun o ho => n o (by rw [upd_ne e]; exact ho)
  generalize upd H2 bo (RawO bo o2) = HB at RB tkB objB dPB lPB dEB lsB d2' frB
  have ysB := Imm.imm (Y := yk K) tkB ysA
  -- below
  have kE : kvE.map (·.1) = bt.map (·.1) := ent_keys lE
  have lenE : kvE.length = bt.length := lE.length
  refine s_setK (T := T) (H := HB) (Y := yFP K HB) (b := ()) (key := tI s) ev_fp (ev_fld (b := V.ref be) (ev_var (i := 0) (b := V.ref q) (by rw [← hσ]; rfl) rfl) objB C E.n_SignTrees_below ft_bel rfl) (ev_kD (ev_var (i := 1) (by rw [← hσ]; rfl) ysB)) (keyI _) dEB (by rw [lenE]; exact small lb) fun v3 H3 o3 r3 y3 d3 d3' => ?_
  obtain ⟨a3, l1, l2, e3, s3, h1, h2, n12, nl1, nl2⟩ := y3
  subst e3
  rw [putK_app (by rw [kE]; exact hb)] at d3'
  have RC : Rs T (in3 pa bo be) H (upd H3 be (RawO be o3)) := (RB.trans r3.rs).chgD (.inr (.inr rfl)) d3
  have tkC : Tk HB (upd H3 be (RawO be o3)) := r3.tk.trans d3.tk
  have lsC : ∀ a vs, H a = some (.lst vs) → upd H3 be (RawO be o3) a = some (.lst vs) := fun a vs h => by rw [upd_ne (raw_ne d3 (r3.lst (lsB a vs h)) lst_raw)]; exact r3.lst (lsB a vs h)
  have frC : ∀ a, Nw (upd H3 be (RawO be o3)) a → Nw H a := fun a n => by
    by_cases e : a = be
    · rw [e] at n
      obtain ⟨ps, z⟩ := n _ upd_same
      exact absurd z (RawO.noTbl ps)
    · exact frA a (frB a (r3.nw fun o ho => n o (by rw [upd_ne e]; exact ho)))
  have m1 := frA _ (frB _ nl1)
  have m2 := frA _ (frB _ nl2)
  have tkH : Tk H (upd H3 be (RawO be o3)) := (tkA.trans tkB).trans tkC
  have dPC := (dPB.rp r3).other (o := RawO be o3) d3 x.n2
  have dBC := (d2'.rp r3).other (o := RawO be o3) d3 x.n3
  refine k _ l1 l2 RC ⟨?_, ⟨pa, _, rfl, dPC, Paired.mapP lPB fun _ _ ⟨q1, q2⟩ => ⟨q1, Imm.imm (Y := ypl K) tkC q2⟩⟩, ⟨_, dBC, ?_⟩, ⟨_, d3', paired_snocG (ent_tk tkH lE) ⟨rfl, a3, rfl, d3.tk K _ _ s3⟩⟩, ?_, ?_, ?_, fun a n => x.fr a (frC a n), x.n1, x.n2, x.n3⟩
  · rw [upd_ne (raw_ne d3 (r3.ins objB) ins_raw)]
    exact r3.ins objB
  · have := length_putK kvB (tI s) v2
    rw [List.length_append]
    show _ ≤ t.length + 1
    omega
  · rw [ads_app]
    refine List.nodup_append.mpr ⟨x.nd, ?_, fun c hc c' hc' e => ?_⟩
    · show [l1, l2].Nodup
      simp [n12]
    · obtain ⟨vs, hv⟩ := ads_lst x hc
      have hc' : c' ∈ [l1, l2] := hc'
      rcases List.mem_cons.mp hc' with z | hc'
      · exact m1.ne hv (fun _ z => by cases z) (e.trans z)
      · exact m2.ne hv (fun _ z => by cases z) (e.trans (List.mem_singleton.mp hc'))
  · intro c hc
    rw [ads_app] at hc
    rcases List.mem_append.mp hc with hc | hc
    · exact x.nw c hc
    · have hc : c ∈ [l1, l2] := hc
      rcases List.mem_cons.mp hc with z | hc
      · rw [z]; exact x.fr _ m1
      · rw [List.mem_singleton.mp hc]; exact x.fr _ m2
  · intro e he
    rcases List.mem_append.mp he with he | he
    · exact ⟨(x.cnt e he).1.tk (fun vs h => lsC _ vs h) tkH, (x.cnt e he).2.tk (fun vs h => lsC _ vs h) tkH⟩
    · rw [List.mem_singleton.mp he]
      exact ⟨⟨[], by rw [upd_ne (raw_ne d3 h1 lst_raw)]; exact h1, .nil⟩, [], by rw [upd_ne (raw_ne d3 h2 lst_raw)]; exact h2, .nil⟩
end
end K20
namespace K20
open PySem PySem.Spec PyProof.Rows L2
section
variable {P : Program} {w : World} {K : Fg} {mg : Str → Option Value} {base : Heap} {T : List (Addr × Str)} {H H' H1 : Hp} {σ : L2.St} {te ta tb t1 t2 t3 ts : TE}
section
variable {E : Tp K mg w T base} {Hb : Hp} {q dx pa bo be : Addr} {t : TrC} {bt : Bt} {ct : D → Bool → List (List Int)}
theorem SB.in3 (x : SB E P Hb H q dx pa bo be t bt ct) {a : Addr} (h : in3 pa bo be a) : ∃ u, H a = some (RawO a u) := by
  rcases h with e | e | e
  · obtain ⟨_, _, z, d, _⟩ := x.par
    cases z
    obtain ⟨u, h, _⟩ := d.raw
    rw [e]
    exact ⟨u, h⟩
  · obtain ⟨_, d, _⟩ := x.blk
    obtain ⟨u, h, _⟩ := d.raw
    rw [e]
    exact ⟨u, h⟩
  · obtain ⟨_, d, _⟩ := x.bel
    obtain ⟨u, h, _⟩ := d.raw
    rw [e]
    exact ⟨u, h⟩
theorem SB.keep (x : SB E P Hb H q dx pa bo be t bt ct) (r : Rs T (K20.in3 pa bo be) H H') {a : Addr} {o : HO} (h : H a = some o) (n : ∀ u, o ≠ RawO a u) (n2 : ∀ ps, o ≠ .tbl ps) : H' a = some o :=
  r.keep a o (fun z => by
    obtain ⟨u, e⟩ := x.in3 z
    rw [h] at e
    exact n u (Option.some.inj e)) h n2
theorem SB.tk (x : SB E P Hb H q dx pa bo be t bt ct) (r : Rs T (K20.in3 pa bo be) H H') : Tk H H' := fun K a xs h => by
  rcases h with (h | ⟨o, h⟩) | h
  · exact .inl (.inl (x.keep r h (fun u z => RawO.noTup xs z.symm) (fun _ z => by cases z)))
  · exact .inl (.inr ⟨o, x.keep r h (fun u z => RawO.noFrz _ z.symm) (fun _ z => by cases z)⟩)
  · exact .inr h
end
section
variable {α β γ δ ε : Type} {Y1 : Hp → V → α → Prop} {Y2 : Hp → V → β → Prop} {Y3 : Hp → V → γ → Prop} {Y4 : Hp → V → δ → Prop} {Y : Hp → V → ε → Prop} {Ex : XK} {C : Addr} {m : Str}
theorem ev_m4 [Mono T Y1] [Mono T Y2] [Mono T Y3] {pre : α × β × γ × δ → Prop} {f : α × β × γ × δ → ε} {a : α} {b : β} {c : γ} {d : δ} (h : Ev T Y1 te σ H a) (ho : IsO C m Y1 T H a) (h2 : Ev T Y2 t1 σ H b) (h3 : Ev T Y3 t2 σ H c) (h4 : Ev T Y4 t3 σ H d) (hp : pre (a, b, c, d)) :
    Ev T Y (tMeth C m (PSp T (a4 Y1 Y2 Y3 Y4) pre Y f) [] Ex te (tCons t1 (tCons t2 (tCons t3 tNil)))) σ H (f (a, b, c, d)) := fun H1 r1 Q q =>
  h H1 r1 _ fun v H2 r2 y => by
    obtain ⟨p, dx, fs, e, hi, hl⟩ := ho H2 v (r1.trans r2) y
    exact ⟨p, dx, fs, e, hi, hl, h2 H2 (r1.trans r2) _ fun w H3 r3 z => h3 H3 (r1.trans (r2.trans r3)) _ fun x H4 r4 o => h4 H4 (r1.trans (r2.trans (r3.trans r4))) _ fun x2 H5 r5 o2 => ⟨(a, b, c, d), ⟨v, w, x, x2, rfl, Mono.mono (r3.trans (r4.trans r5)) y, Mono.mono (r4.trans r5) z, Mono.mono r5 o, o2⟩, hp, fun u H6 r6 x' => q u H6 (r2.trans (r3.trans (r4.trans (r5.trans r6)))) x'⟩⟩
end
/-- a call of hang -/
theorem c_hang {E : Tp K mg w T base} {Hb : Hp} {q dx pa bo be : Addr} {t : TrC} {bt : Bt} {s : List Int} {pl : PlC} {bv : V} {Ex : XK} {Q : VK} (hs : Ev T yV ts σ H (.ref q)) (h1 : Ev T (yk K) t1 σ H s) (h2 : Ev T yV t2 σ H bv) (h3 : Ev T (ypl K) t3 σ H pl) (x : SB E P Hb H q dx pa bo be t bt noC)
    (f1 : s ∉ keysC t) (f2 : tI s ∉ bt.map (·.1)) (l1 : t.length < 100000) (l2 : bt.length < 100000) (k : ∀ v H' a b, Rs T (in3 pa bo be) H H' → SB E P Hb H' q dx pa bo be (t ++ [(s, pl)]) (bt ++ [(tI s, (a, b))]) noC → Q v H') :
    tMeth E.C_SignTrees "hang" (sp_hang E P) [] Ex ts (tCons t1 (tCons t2 (tCons t3 tNil))) σ H Q := hs H (Rp.refl _) _ fun v H1 r1 e => by
  obtain rfl : v = V.ref q := e
  refine ⟨q, dx, _, rfl, (x.rp r1).obj, ft_no (by decide +kernel), ?_⟩
  refine h1 H1 r1 _ fun v1 H2 r2 y1 => h2 H2 (r1.trans r2) _ fun v2 H3 r3 y2 => h3 H3 (r1.trans (r2.trans r3)) _ fun v3 H4 r4 y3 => ?_
  have r := r1.trans (r2.trans (r3.trans r4))
  exact ⟨Hb, q, dx, pa, bo, be, t, bt, s, pl, v1, v2, v3, rfl, x.rp r, Mono.mono (T := T) (Y := yk K) (r3.trans r4) y1, y3, f1, f2, l1, l2, fun H' a b rs x' => k _ H' a b (r.rs.trans rs) x'⟩
/-- a, b, c, d = e -/
theorem q_un4 {u : TS} {En : Ends} {i1 i2 i3 i4 : Nat} {d1 d2 d3 d4 : D} (h : Ev T (yD K) te σ H (.tup [d1, d2, d3, d4]))
    (k : ∀ v1 v2 v3 v4 H1, Rp T H H1 → Dt K H1 v1 d1 → Dt K H1 v2 d2 → Dt K H1 v3 d3 → Dt K H1 v4 d4 → u En ((((σ.set i1 (some v1)).set i2 (some v2)).set i3 (some v3)).set i4 (some v4)) H1) :
    tSeq (tAsg te (gTup K 4 (gCons (gName i1) (gCons (gName i2) (gCons (gName i3) (gCons (gName i4) gNil)))))) u En σ H := h H (Rp.refl _) _ fun v H2 r2 y => by
  obtain ⟨a, xs, ea, s, l⟩ := Dt.tup_inv y
  cases l with
  | cons l1 l => cases l with
    | cons l2 l => cases l with
      | cons l3 l => cases l with
        | cons l4 l =>
          cases l
          exact ⟨a, _, ea, s, rfl, _, _, rfl, _, _, rfl, _, _, rfl, _, _, rfl, rfl, k _ _ _ _ H2 r2 l1 l2 l3 l4⟩
theorem pre_len {m : Nat} (h1 : 1 ≤ m) (h3 : m ≤ 3) : (pre m).length = m := by
  have hc : m = 1 ∨ m = 2 ∨ m = 3 := by omega
  rcases hc with e | e | e <;> subst e <;> decide +kernel
theorem sc_SignTrees_hang_text : FnScope ["self", "name", "act", "block", "left", "right", "text", "k"] ["self", "name", "act"] (defScope s_SignTrees_hang_text) := ⟨rfl, rfl, rfl, by decide +kernel, rfl, by decide +kernel, by decide +kernel⟩
theorem bd_SignTrees_hang_text (E : Tp K mg w T base) : Binds K E.d_SignTrees_hang_text ["self", "name", "act"] [] := E.F_SignTrees_hang_text.bindsN fun _ _ _ _ _ _ us hl => match us, hl with | [_, _, _], _ => rfl
def sp_hang_text (E : Tp K mg w T base) (P : Program) : Sp := fun vs H Q _ => ∃ (Hb : Hp) (q dx pa bo be : Addr) (t : TrC) (bt : Bt) (x : Deed) (b : List Int) (l r : Option (List Int)) (m : Nat) (nv av : V), vs = [.ref q, nv, av] ∧ SB E P Hb H q dx pa bo be t bt noC ∧ yk K H nv x.id ∧ yact K H av x.act ∧ x.act = .wr b l r m ∧ 1 ≤ m ∧ m ≤ 3 ∧
  (∀ l' r', l = some l' → r = some r' → r' ∈ keysC t ∧ ∃ n, n ≤ t.length + 1 ∧ Dep (lu t) r' n) ∧ (∀ k, sg x k ∉ keysC t) ∧ (∀ k, tI (sg x k) ∉ bt.map (·.1)) ∧ t.length < 90000 ∧ bt.length < 90000 ∧
  ∀ H' bt', Rs T (in3 pa bo be) H H' → bt'.map (·.1) = ((List.range m).map (sg x)).map tI → SB E P Hb H' q dx pa bo be (t ++ hangC x (placeC t b l r) m) (bt ++ bt') noC → Q .non H'
theorem ok_SignTrees_hang_text (E : Tp K mg w T base) : FnOk P w K mg base CX0 3 E.f_SignTrees_hang_text E.d_SignTrees_hang_text ["self", "name", "act"] (sp_hang_text E P) := by
  refine E.F_SignTrees_hang_text.ok sc_SignTrees_hang_text (fun vs H Q Ex h => ?_) (fun cdv Ar outer s H vs Q Ex hr h => ⟨_, PSs.nox (pss_cons (ps_asg (pe_slice sl_tupA (pv 2) (po_some pe_int) po_none) (pg_tup rfl (pgs_cons (pg_name (i := 3) sc_SignTrees_hang_text.nd rfl (.inl rfl)) (pgs_cons (pg_name (i := 4) sc_SignTrees_hang_text.nd rfl (.inl rfl)) (pgs_cons (pg_name (i := 5) sc_SignTrees_hang_text.nd rfl (.inl rfl)) (pgs_cons (pg_name (i := 6) sc_SignTrees_hang_text.nd rfl (.inl rfl)) pgs_nil)))))) (pss_cons (ps_expr (pe_meth (pv 0) E.c_SignTrees E.m_SignTrees_hang (ok_SignTrees_hang (T := T) E) (hr.mono (by decide)) (bd_SignTrees_hang E) .nil pass0 (pa_cons (pe_op op_plus (pv 1) (pe_tup (pa_cons pe_int pa_nil))) (pa_cons (pv 3) (pa_cons (pe_meth (pv 0) E.c_SignTrees E.m_SignTrees_place_between (ok_SignTrees_place_between (T := T) E) (hr.mono (by decide)) (bd_SignTrees_place_between E) .nil pass0 (pa_cons (pv 3) (pa_cons (pv 4) (pa_cons (pv 5) pa_nil)))) pa_nil))))) (pss_one (ps_for PassesOwn.never rfl (pi_range2 (by rfl) E.range (pa_cons pe_int (pa_cons (pe_callB call_lenU (by rfl) E.len (by decide +kernel) (pa_cons (pv 6) pa_nil)) pa_nil))) (pg_name (i := 7) sc_SignTrees_hang_text.nd rfl (.inl rfl)) (pss_one (ps_expr (pe_meth (pv 0) E.c_SignTrees E.m_SignTrees_hang (ok_SignTrees_hang (T := T) E) (hr.mono (by decide)) (bd_SignTrees_hang E) .nil pass0 (pa_cons (pe_op op_plus (pv 1) (pe_tup (pa_cons (pv 7) pa_nil))) (pa_cons (pv 3) (pa_cons (pe_tup (pa_cons (pe_op op_plus (pv 1) (pe_tup (pa_cons (pe_op op_sub (pv 7) pe_int) pa_nil))) (pa_cons pe_str pa_nil))) pa_nil)))))))))), ?_⟩)
  · obtain ⟨Hb, q, dx, pa, bo, be, t, bt, x, b, l, r, m, nv, av, rfl, _⟩ := h
    rfl
  obtain ⟨Hb, q, dx, pa, bo, be, t, bt, x, b, l, r, m, nv, av, rfl, sb, yn, ya, ea, m1, m3, hpl, hf, hfb, lt, lb, k⟩ := h
  have evA : Ev T (yD K) (tVar 2) (start ["self", "name", "act", "block", "left", "right", "text", "k"] [.ref q, nv, av]) H (.tup [.text "write", tI b, oD l, oD r, .text (pre m)]) := ev_var rfl (by
    have z : Dt K H av x.act.d := ya
    rw [ea] at z
    exact z)
  refine q_un4 (T := T) (K := K) (d1 := tI b) (d2 := oD l) (d3 := oD r) (d4 := .text (pre m)) (ev_slD (lo := some 1) (hi := none) evA (eo_some ev_int) eo_none) fun v3 v4 v5 v6 H1 r1 y3 y4 y5 y6 => ?_
  obtain rfl := y6.text_inv
  have sb1 := sb.rp r1
  have yn1 := Mono.mono (T := T) (Y := yk K) r1 yn
  show tSeq _ _ _ ([some (.ref q), some nv, some av, some v3, some v4, some v5, some (.str (pre m)), none] : L2.St) H1
  have ld : ∀ (hv : Option V) (H2 : Hp), yk K H2 nv x.id → ∀ (te : TE) (i : Int) (k : Nat), i = (k : Int) → Ev T yI te [some (.ref q), some nv, some av, some v3, some v4, some v5, some (.str (pre m)), hv] H2 i →
      Ev T (yk K) (tOp (rPlus K) (tVar 1) (tTup (tCons te tNil))) [some (.ref q), some nv, some av, some v3, some v4, some v5, some (.str (pre m)), hv] H2 (sg x k) := fun hv H2 yn2 te i k ei h => by
    subst ei
    exact ev_plT (ds := [.num x.h, .num x.n]) (es := [.num (k : Int)]) (ev_var (i := 1) rfl yn2) (ev_tup (eds_cons (ev_ID h) eds_nil) (by show 1 ≤ sizeLine; decide)) (by simp) (by simp) (by show 3 ≤ sizeLine; decide)
  generalize hpl2 : placeC t b l r = pl at k
  refine c_hang (T := T) (s := sg x 0) (pl := pl) (bv := v3) (ev_var (i := 0) rfl rfl) (ld none H1 yn1 _ 0 0 rfl ev_int) (ev_var (i := 3) rfl rfl) ?_ sb1 (hf 0) (hfb 0) (by omega) (by omega) fun _ H2 a0 b0 rs2 sb2 => ?_
  · rw [← hpl2]
    exact ev_m4 (T := T) (C := E.C_SignTrees) (m := "place_between") (Y1 := yTr E P) (Y2 := yk K) (Y3 := yo K) (Y4 := yo K) (Y := ypl K) (a := t) (b := b) (c := l) (d := r) (f := fun p => placeC p.1 p.2.1 p.2.2.1 p.2.2.2) (pre := fun p => ∀ l r, p.2.2.1 = some l → p.2.2.2 = some r → r ∈ keysC p.1 ∧ ∃ n, n ≤ p.1.length + 1 ∧ Dep (lu p.1) r n)
      (ev_var (i := 0) rfl sb1.tr) (isTr (by decide +kernel)) (ev_var (i := 3) rfl y3) (ev_var (i := 4) rfl y4) (ev_var (i := 5) rfl y5) hpl
  have tk2 := sb1.tk rs2
  dsimp only
  refine s_forR2 (T := T) (m := 1) (n := (m : Int)) (σ := [some (.ref q), some nv, some av, some v3, some v4, some v5, some (.str (pre m)), none]) (H := H2) ?_ ?_ fun H3 r3 => ?_
  · refine fun H3 r3 Q' q' => ?_
    refine ev_leS (K := K) (P := P) (w := w) (T := T) (z := pre m) (σ := [some (.ref q), some nv, some av, some v3, some v4, some v5, some (.str (pre m)), none]) (ev_var (i := 6) rfl rfl) (by rw [pre_len m1 m3]; exact Nat.le_trans m3 (by decide)) H3 r3 _ fun lv H4 r4 e4 => ?_
    refine q' _ H4 r4 ?_
    rw [show lv = V.int ((pre m).length : Int) from e4, pre_len m1 m3]
  · omega
  · refine ⟨fun i σ' H' => Tk H2 H' ∧ Rs T (in3 pa bo be) H H' ∧ (∃ hv, σ' = [some (.ref q), some nv, some av, some v3, some v4, some v5, some (.str (pre m)), hv]) ∧ ∃ bt', bt'.map (·.1) = ((List.range (i + 1)).map (sg x)).map tI ∧ SB E P Hb H' q dx pa bo be (t ++ hangC x pl (i + 1)) (bt ++ bt') noC, ?_, ?_, ?_⟩
    · exact ⟨r3.tk, (r1.rs.trans rs2).trans r3.rs, ⟨none, rfl⟩, [(tI (sg x 0), (a0, b0))], rfl, sb2.rp r3⟩
    · rintro i σ' H' hi ⟨tk, rs, ⟨hv, eσ⟩, bt', eb, sb'⟩
      subst eσ
      have hi3 : i < 3 := by omega
      have ynI : yk K H' nv x.id := Imm.imm (Y := yk K) (tk2.trans tk) yn1
      have lb' : bt'.length = i + 1 := by
        have z := congrArg List.length eb
        simpa using z
      have lh : (hangC x pl (i + 1)).length = i + 1 := by
        unfold hangC
        rw [List.length_map, List.length_range]
      have e1 : (1 : Int) + (i : Int) = ((i + 1 : Nat) : Int) := by omega
      have e2 : (1 : Int) + (i : Int) - 1 = ((i : Nat) : Int) := by omega
      refine c_hang (T := T) (s := sg x (i + 1)) (pl := (sg x i, false)) (bv := v3) (ev_var (i := 0) rfl rfl) (ld _ H' ynI _ _ (i + 1) e1 (ev_var (i := 7) rfl rfl)) (ev_var (i := 3) rfl rfl) (ev_pl2 (ld _ H' ynI _ _ i e2 (ev_sub (ev_var (i := 7) rfl rfl) ev_int)) ev_str rfl) sb' ?_ ?_ ?_ ?_ fun _ H4 a4 b4 rs4 sb4 => ?_
      · intro z
        unfold keysC at z
        rw [List.map_append] at z
        rcases List.mem_append.mp z with z | z
        · exact hf _ z
        · rw [show (hangC x pl (i + 1)).map (·.1) = (List.range (i + 1)).map (sg x) from hangC_keys x pl (i + 1)] at z
          obtain ⟨j, hj, ej⟩ := List.mem_map.mp z
          have := (sg_inj ej).2
          have := List.mem_range.mp hj
          omega
      · intro z
        rw [List.map_append] at z
        rcases List.mem_append.mp z with z | z
        · exact hfb _ z
        · rw [eb] at z
          obtain ⟨j, hj, ej⟩ := List.mem_map.mp (tI_mem.mp z)
          have := (sg_inj ej).2
          have := List.mem_range.mp hj
          omega
      · rw [List.length_append, lh]
        omega
      · rw [List.length_append, lb']
        omega
      · refine ⟨tk.trans (sb'.tk rs4), rs.trans rs4, ⟨_, rfl⟩, bt' ++ [(tI (sg x (i + 1)), (a4, b4))], ?_, ?_⟩
        · rw [List.map_append, eb, range_sg x (i + 1), List.map_append]
          rfl
        · rw [hangC_succ, if_neg (by omega), ← List.append_assoc, ← List.append_assoc]
          exact sb4
    · rintro σ' H' ⟨tk, rs, ⟨hv, eσ⟩, bt', eb, sb'⟩
      have em : ((m : Int) - 1).toNat + 1 = m := by omega
      rw [em] at eb sb'
      exact k H' bt' rs eb sb'
end
end K20
namespace K20
open PySem PySem.Spec PyProof.Rows L2
section
variable {P : Program} {w : World} {K : Fg} {mg : Str → Option Value} {base : Heap} {T : List (Addr × Str)} {H H' H1 : Hp} {σ : L2.St} {te ta tb t1 t2 t3 ts : TE}
/-! ### blocks_in -/
def blks (L : List Deed) : List (List Int) := root :: sortI false ((L.filter (isW "block")).map Deed.id)
theorem word_block {x : Deed} (h : isW "block" x = true) : ∃ c, x.act = .bk c := by
  cases ha : x.act with
  | bk c => exact ⟨c, rfl⟩
  | wr b l r m =>
    unfold isW at h
    rw [ha] at h
    exact absurd (of_decide_eq_true h) (by decide +kernel : ¬ (("write" : Str) = "block"))
theorem isW_bk {x : Deed} {c : List Int} (h : x.act = .bk c) : isW "block" x = true := by
  unfold isW
  rw [h]
  exact decide_eq_true rfl
theorem word_write {x : Deed} (h : isW "write" x = true) : ∃ b l r m, x.act = .wr b l r m := by
  cases ha : x.act with
  | wr b l r m => exact ⟨b, l, r, m, rfl⟩
  | bk c =>
    unfold isW at h
    rw [ha] at h
    exact absurd (of_decide_eq_true h) (by decide +kernel : ¬ (("block" : Str) = "write"))
theorem isW_wr {x : Deed} {b : List Int} {l r : Option (List Int)} {m : Nat} (h : x.act = .wr b l r m) : isW "write" x = true := by
  unfold isW
  rw [h]
  exact decide_eq_true rfl
theorem isW_bk_write {x : Deed} {c : List Int} (h : x.act = .bk c) : isW "write" x = false := by
  unfold isW
  rw [h]
  exact (by decide +kernel : decide (("block" : Str) = "write") = false)
theorem mem_blks {L : List Deed} {b : List Int} (h : IsBlock L b) : b ∈ blks L := by
  rcases h with e | ⟨y, hy, e, c, ec⟩
  · rw [e]
    exact List.mem_cons_self
  · exact List.mem_cons_of_mem _ (mem_sortI.mpr (List.mem_map.mpr ⟨y, List.mem_filter.mpr ⟨hy, isW_bk ec⟩, e⟩))
theorem blks_len2 {L : List Deed} {b : List Int} (h : b ∈ blks L) : b.length = 2 := by
  rcases List.mem_cons.mp h with e | h
  · rw [e]; rfl
  · obtain ⟨x, _, e⟩ := List.mem_map.mp (mem_sortI.mp h)
    rw [← e]; rfl
theorem blks_len (L : List Deed) : (blks L).length ≤ L.length + 1 := by
  unfold blks
  rw [List.length_cons, (sortI_perm _ _).length_eq, List.length_map]
  exact Nat.succ_le_succ (List.length_filter_le _ _)
theorem blks_nd {L : List Deed} (g : Good L) : (blks L).Nodup := by
  refine List.nodup_cons.mpr ⟨fun h => ?_, (sortI_perm _ _).nodup_iff.mpr ((List.Sublist.map _ List.filter_sublist).nodup g.nd)⟩
  obtain ⟨x, hx, e⟩ := List.mem_map.mp (mem_sortI.mp h)
  have := (g.ok x (List.mem_filter.mp hx).1).n1
  have e2 : x.n = 0 := by
    have z := congrArg (fun l => l.getD 1 0) e
    exact z
  omega
theorem sc_blocks_in : FnScope ["d"] ["d"] (defScope s_blocks_in) := ⟨rfl, rfl, rfl, by decide +kernel, rfl, by decide +kernel, by decide +kernel⟩
theorem bd_blocks_in (E : Tp K mg w T base) : Binds K E.d_blocks_in ["d"] [] := E.F_blocks_in.bindsN fun _ _ _ _ _ _ us hl => match us, hl with | [_], _ => rfl
def sp_blocks_in (E : Tp K mg w T base) (P : Program) : Sp := fun vs H Q _ => ∃ (p k m av : Addr) (L : List Deed) (wd tr : Option V), vs = [.ref p] ∧ DObj E P H p L k m ∧ KeptOk E P av H k L wd tr ∧ L.length ≤ 1000 ∧
  ∀ v H' wv, Rk T k H H' → KeptOk E P av H' k L (some wv) tr → yL (yk K) H' v (blks L) → Q v H'
theorem ok_blocks_in (E : Tp K mg w T base) : FnOk P w K mg base CX0 3 E.f_blocks_in E.d_blocks_in ["d"] (sp_blocks_in E P) := by
  refine E.F_blocks_in.ok sc_blocks_in (fun vs H Q Ex h => ?_) (fun cdv Ar outer s H vs Q Ex hr h => ⟨_, PSs.nox (pss_one (ps_ret (pe_op op_plus (pe_lst (pa_cons (pe_glob (by rfl) E.g_ROOT_core_signs E.r_ROOT_core_signs) pa_nil)) (pe_callB (cr_sortT (hu9 hr)) (by rfl) E.sorted (by decide +kernel) (pa_cons (pe_call (ok_named_by (T := T) E) (hr.mono (by decide)) (by rfl) E.g_named_by E.F_named_by.kp (bd_named_by E) .nil pass0 (pa_cons (pv 0) (pa_cons pe_str pa_nil))) pa_nil))))), ?_⟩)
  · obtain ⟨p, k, m, av, L, wd, tr, rfl, _⟩ := h
    rfl
  obtain ⟨p, k, m, av, L, wd, tr, rfl, hd, hk, hlen, kk⟩ := h
  refine ⟨by show 1 ≤ sizeLine; decide, fun l hl => ?_⟩
  have r1 : Rp T H (upd H l (.lst [.ref E.a_ROOT_core_signs])) := Rp.new hl
  have h1 : upd H l (.lst [.ref E.a_ROOT_core_signs]) l = some (.lst [.ref E.a_ROOT_core_signs]) := upd_same
  generalize upd H l (.lst [.ref E.a_ROOT_core_signs]) = HA at r1 h1
  refine ⟨.ref p, rfl, p, k, m, av, L, "block", wd, tr, rfl, hd.rp r1, hk.rp r1, hlen, fun v H2 wv rk _ k2 y2 => ?_⟩
  obtain ⟨a, ys, e, ha, la⟩ := y2
  subst e
  obtain ⟨lk, hlk⟩ := (hk.rp r1).dk
  have h2 : H2 l = some (.lst [.ref E.a_ROOT_core_signs]) := (rk.rw_ hlk).lst h1
  have la' : Paired (fun v q => Dt K H2 v (tI q)) ys ((L.filter (isW "block")).map Deed.id) := by
    clear ha
    revert la
    generalize L.filter (isW "block") = M
    intro la
    induction la with
    | nil => exact .nil
    | cons a _ ih => exact .cons a ih
  refine ⟨a, ys, _, rfl, SqL.of ha, la', fun q hq => ?_, fun c hc zs hz => ?_⟩
  · obtain ⟨x, _, e⟩ := List.mem_map.mp hq
    rw [← e]
    exact fun z => by cases z
  have r3 : Rp T H2 (upd H2 c (.lst zs)) := Rp.new hc
  have h3 := r3.lst h2
  have c3 : upd H2 c (.lst zs) c = some (.lst zs) := upd_same
  generalize upd H2 c (.lst zs) = H3 at r3 h3 c3
  have hz3 : Paired (yk K H3) zs (sortI false ((L.filter (isW "block")).map Deed.id)) := Paired.mapP hz fun _ _ y => Mono.mono (T := T) (Y := yk K) r3 y
  refine .inr (.inl ⟨l, c, _, zs, rfl, rfl, h3, c3, ?_, fun f hf => ?_⟩)
  · rw [hz3.length, (sortI_perm _ _).length_eq, List.length_map]
    exact Nat.le_trans (Nat.add_le_add_left (List.length_filter_le _ _) 1) (Nat.le_trans (by omega : 1 + L.length ≤ 1001) (by decide))
  have r4 : Rp T H3 (upd H3 f (.lst ([.ref E.a_ROOT_core_signs] ++ zs))) := Rp.new hf
  refine kk _ _ wv ((r1.rk.trans rk).trans (r3.trans r4).rk) (k2.rp (r3.trans r4)) ⟨f, _, rfl, upd_same, .cons (yk_of (E.q_ROOT_core_signs _)) (paired_mono (Y := yk K) r4 hz3)⟩
/-! ### the tree by the writes alone -/
theorem ctree_filter (L : List Deed) : ctree (L.filter (isW "write")) = ctree L := by
  refine snoc_ind (m := fun L => ctree (L.filter (isW "write")) = ctree L) rfl (fun M x ih => ?_) L
  rw [filter_snoc]
  cases ha : x.act with
  | wr b l r m =>
    rw [show Act.word (.wr b l r m) = "write" from rfl, if_pos rfl, ctree_snoc, ctree_snoc, ih]
  | bk c =>
    rw [if_neg (show ¬ (Act.word (.bk c) = "write") from (by decide +kernel : ¬ (("block" : Str) = "write"))), List.append_nil, ih, ctree_snoc]
    unfold stepC
    rw [ha]
theorem filter_at {p : Deed → Bool} : ∀ {L : List Deed} {i : Nat} {x : Deed}, (L.filter p)[i]? = some x → ∃ P R, L = P ++ x :: R ∧ P.filter p = (L.filter p).take i
  | [], i, x, h => by simp at h
  | y :: L, i, x, h => by
    by_cases hy : p y = true
    · rw [List.filter_cons_of_pos hy] at h ⊢
      cases i with
      | zero =>
        cases h
        exact ⟨[], L, rfl, rfl⟩
      | succ j =>
        obtain ⟨P, R, e, e2⟩ := filter_at (L := L) (i := j) (x := x) (by simpa using h)
        exact ⟨y :: P, R, by rw [e]; rfl, by rw [List.filter_cons_of_pos hy, e2]; rfl⟩
    · rw [List.filter_cons_of_neg hy] at h ⊢
      obtain ⟨P, R, e, e2⟩ := filter_at (L := L) (i := i) (x := x) h
      exact ⟨y :: P, R, by rw [e]; rfl, by rw [List.filter_cons_of_neg hy, e2]⟩
/-- what is known when the i-th write is hung -/
theorem hang_ready {L : List Deed} (g : Good L) {i : Nat} {x : Deed} (h : (L.filter (isW "write"))[i]? = some x) {b : List Int} {l r : Option (List Int)} {m : Nat} (ha : x.act = .wr b l r m) :
    (∀ l' r', l = some l' → r = some r' → r' ∈ keysC (ctree ((L.filter (isW "write")).take i)) ∧ ∃ n, n ≤ (ctree ((L.filter (isW "write")).take i)).length + 1 ∧ Dep (lu (ctree ((L.filter (isW "write")).take i))) r' n) ∧
    (∀ k, sg x k ∉ keysC (ctree ((L.filter (isW "write")).take i))) ∧ 1 ≤ m ∧ m ≤ 3 := by
  obtain ⟨P, R, e, e2⟩ := filter_at h
  rw [← e2, ctree_filter]
  subst e
  have g1 : Good (P ++ [x]) := Good.take (R := R) (by rw [List.append_assoc]; exact g)
  have g0 := g1.init
  have f := g1.last
  rw [ha] at f
  refine ⟨fun l' r' _ er => ?_, fun k z => ?_, f.2.2.1, f.2.2.2⟩
  · have hr := (g1.lr ha).2 r' er
    have hk : r' ∈ keysC (ctree P) := mem_ctree.mpr ⟨b, hr⟩
    obtain ⟨n, hn, d⟩ := g0.depB hk
    exact ⟨hk, n, by omega, d⟩
  · obtain ⟨c, hc⟩ := mem_ctree.mp z
    exact g1.fresh k hc
theorem ctree_step {M : List Deed} {i : Nat} {x : Deed} (h : M[i]? = some x) {b : List Int} {l r : Option (List Int)} {m : Nat} (ha : x.act = .wr b l r m) : ctree (M.take (i + 1)) = ctree (M.take i) ++ hangC x (placeC (ctree (M.take i)) b l r) m := by
  rw [take_grow h, ctree_snoc]
  unfold stepC
  rw [ha]
end
end K20
namespace K20
open PySem PySem.Spec PyProof.Rows L2
section
variable {P : Program} {w : World} {K : Fg} {mg : Str → Option Value} {base : Heap} {T : List (Addr × Str)} {H H' H1 : Hp} {σ : L2.St} {te ta tb t1 t2 t3 ts : TE}
theorem ads_inj : ∀ {bt : Bt}, (ads bt).Nodup → ∀ {e e' : D × (Addr × Addr)}, e ∈ bt → e' ∈ bt → (e.2.1 = e'.2.1 → e = e') ∧ (e.2.2 = e'.2.2 → e = e') ∧ e.2.1 ≠ e'.2.2
  | [], _, _, _, h, _ => by cases h
  | c :: bt, nd, e, e', h, h' => by
    have nd' : (c.2.1 :: c.2.2 :: ads bt).Nodup := nd
    obtain ⟨n1, nd2⟩ := List.nodup_cons.mp nd'
    obtain ⟨n2, nd3⟩ := List.nodup_cons.mp nd2
    have a1 : ∀ f ∈ bt, c.2.1 ≠ f.2.1 ∧ c.2.1 ≠ f.2.2 ∧ c.2.2 ≠ f.2.1 ∧ c.2.2 ≠ f.2.2 := fun f hf => by
      obtain ⟨m1, m2⟩ := ads_mem hf
      exact ⟨fun z => n1 (List.mem_cons_of_mem _ (z ▸ m1)), fun z => n1 (List.mem_cons_of_mem _ (z ▸ m2)), fun z => n2 (z ▸ m1), fun z => n2 (z ▸ m2)⟩
    rcases List.mem_cons.mp h with q | h1
    · rcases List.mem_cons.mp h' with q' | h2
      · subst q q'
        exact ⟨fun _ => rfl, fun _ => rfl, fun z => n1 (z ▸ List.mem_cons_self)⟩
      · subst q
        obtain ⟨z1, z2, z3, z4⟩ := a1 e' h2
        exact ⟨fun z => absurd z z1, fun z => absurd z z4, z2⟩
    · rcases List.mem_cons.mp h' with q' | h2
      · subst q'
        obtain ⟨z1, z2, z3, z4⟩ := a1 e h1
        exact ⟨fun z => absurd z.symm z1, fun z => absurd z.symm z4, fun z => z3 z.symm⟩
      · exact ads_inj nd3 h1 h2
section
variable {E : Tp K mg w T base} {Hb : Hp} {q dx pa bo be : Addr} {t : TrC} {bt : Bt} {ct : D → Bool → List (List Int)}
/-- a sign is put into one of the lists -/
theorem SB.app (x : SB E P Hb H q dx pa bo be t bt ct) {la : Addr} (hl : la ∈ ads bt) {vs : List V} {v : V} {s : List Int} (hv : H la = some (.lst vs)) (y : yk K H v s) {ct' : D → Bool → List (List Int)}
    (h1 : ∀ e ∈ bt, ct' e.1 true = if e.2.1 = la then ct e.1 true ++ [s] else ct e.1 true) (h2 : ∀ e ∈ bt, ct' e.1 false = if e.2.2 = la then ct e.1 false ++ [s] else ct e.1 false) : SB E P Hb (upd H la (.lst (vs ++ [v]))) q dx pa bo be t bt ct' := by
  have tk : Tk H (upd H la (.lst (vs ++ [v]))) := Tk.updL hv
  have dk : ∀ {a : Addr} {kv : List (D × V)}, DictAt K P w H a kv → DictAt K P w (upd H la (.lst (vs ++ [v]))) a kv := fun {a kv} d => d.keep (fun u e => by
    rw [upd_ne (fun z => by
      obtain ⟨u', e', _⟩ := d.raw
      rw [z, hv] at e'
      exact lst_raw u' (Option.some.inj e'))]
    exact e) tk
  have ls : ∀ {a : Addr} {ks ks' : List (List Int)}, Ls K H a ks → (ks' = if a = la then ks ++ [s] else ks) → Ls K (upd H la (.lst (vs ++ [v]))) a ks' := fun {a ks ks'} ⟨us, e1, e2⟩ ek => by
    by_cases ea : a = la
    · rw [if_pos ea] at ek
      subst ea ek
      rw [hv] at e1
      cases e1
      exact ⟨vs ++ [v], upd_same, paired_snocG (Paired.mapP e2 fun _ _ y => Imm.imm (Y := yk K) tk y) (Imm.imm (Y := yk K) tk y)⟩
    · rw [if_neg ea] at ek
      subst ek
      exact ⟨us, by rw [upd_ne ea]; exact e1, Paired.mapP e2 fun _ _ y => Imm.imm (Y := yk K) tk y⟩
  refine ⟨by rw [upd_ne (ne_of x.obj hv (fun z => by cases z))]; exact x.obj, ?_, ?_, ?_, x.nd, x.nw, fun e he => ⟨ls (x.cnt e he).1 (h1 e he), ls (x.cnt e he).2 (h2 e he)⟩, fun a n => x.fr a fun o ho => ?_, x.n1, x.n2, x.n3⟩
  · obtain ⟨a, kv, e, d, l⟩ := x.par
    exact ⟨a, kv, e, by cases e; exact dk d, Paired.mapP l fun _ _ ⟨q1, q2⟩ => ⟨q1, Imm.imm (Y := ypl K) tk q2⟩⟩
  · obtain ⟨kv, d, l⟩ := x.blk
    exact ⟨kv, dk d, l⟩
  · obtain ⟨kv, d, l⟩ := x.bel
    exact ⟨kv, dk d, ent_tk tk l⟩
  · by_cases ea : a = la
    · rw [ea] at n
      obtain ⟨ps, z⟩ := n _ upd_same
      cases z
    · exact n o (by rw [upd_ne ea]; exact ho)
/-- the table as it is read -/
theorem SB.ybel (x : SB E P Hb H q dx pa bo be t bt ct) : yM K P w (ybl K) H (.ref be) (bt.map fun e => (e.1, (ct e.1 true, ct e.1 false))) := by
  obtain ⟨kv, d, l⟩ := x.bel
  refine ⟨be, kv, rfl, d, ?_⟩
  have hc := x.cnt
  clear d x
  induction l with
  | nil => exact .nil
  | @cons p e kv bt a _ ih =>
    obtain ⟨e1, c, e2, s⟩ := a
    obtain ⟨⟨v1, g1, p1⟩, v2, g2, p2⟩ := hc e List.mem_cons_self
    exact .cons ⟨e1, c, .ref e.2.1, .ref e.2.2, e2, s, ⟨e.2.1, v1, rfl, g1, p1⟩, ⟨e.2.2, v2, rfl, g2, p2⟩⟩ (ih (fun f hf => hc f (List.mem_cons_of_mem _ hf)))
end
end
end K20
namespace K20
open PySem PySem.Spec PyProof.Rows L2
section
variable {P : Program} {w : World} {K : Fg} {mg : Str → Option Value} {base : Heap} {T : List (Addr × Str)} {H H' H1 : Hp} {σ : L2.St} {te ta tb t1 t2 t3 ts : TE}
theorem Rs.sub {S S' : Addr → Prop} {H0 H1 H2 : Hp} (a : Rs T S H0 H1) (b : Rs T S' H1 H2) (h : ∀ c, S' c → S c ∨ Nw H0 c) : Rs T S H0 H2 := ⟨fun c o n e t => by
  by_cases s : S' c
  · rcases h c s with z | z
    · exact absurd z n
    · obtain ⟨ps, z⟩ := z o e
      exact absurd z (t ps)
  · exact b.keep c o s (a.keep c o n e t) t, fun t => b.tabs (a.tabs t)⟩
theorem Rs.nw {S : Addr → Prop} {H0 H1 : Hp} {a : Addr} (r : Rs T S H0 H1) (h : Nw H1 a) (hs : S a → Nw H0 a) : Nw H0 a := by
  by_cases s : S a
  · exact hs s
  · intro o e
    by_cases n : ∃ ps, o = HO.tbl ps
    · exact n
    · exact h o (r.keep a o s e fun ps z => n ⟨ps, z⟩)
theorem Rs.chgI {S : Addr → Prop} {H0 H1 : Hp} {a C dx : Addr} {fs : List (Str × V)} {o : HO} (r : Rs T S H0 H1) (hs : S a) (h1 : H1 a = some (.ins C dx fs)) : Rs T S H0 (upd H1 a o) :=
  ⟨fun b v n h t => by rw [upd_ne (fun z => n (by rw [z]; exact hs))]; exact r.keep b v n h t, fun t => Rp.tabs_upd (r.tabs t) (fun ps z => by rw [h1] at z; cases z) (fun q z => by rw [h1] at z; unfold LamX.CodeO at z; cases z)⟩
/-- self.below = {block: ([], []) for block in blocks_in(d)} -/
theorem init_below {E : Tp K mg w T base} {u : TS} {En : Ends} {Ex : XK} {q dx pa bo p k m av : Addr} {L : List Deed} {wd : Option V} (g : Good L) (hlen : L.length ≤ 1000) (hq : H q = some (.ins E.C_SignTrees dx [("parent", .ref pa), ("block_of", .ref bo)])) (dP : DictAt K P w H pa []) (dB : DictAt K P w H bo []) (npb : pa ≠ bo) (hd : DObj E P H p L k m) (hk : KeptOk E P av H k L wd none) (fr0 : Nw H q → False)
    (kk : ∀ Hb HC be bt wv, Rk T k H Hb → KeptOk E P av Hb k L (some wv) none → Nw Hb be → Rs T (fun a => a = q) Hb HC → SB E P Hb HC q dx pa bo be [] bt noC → bt.map (·.1) = (blks L).map tI → u En [some (.ref q), some (.ref p), none, none, none, none, none] HC) :
    tSeq (sFld K (tVar 0) (tGc (iniD K P w) (iList K (tCall (sp_blocks_in (T := T) E P) [] Ex (tCons (tVar 1) tNil))) (gName 6) tYes (accD K P w (tVar 6) (tTup (tCons (tLst tNil) (tCons (tLst tNil) tNil)))) [6]) "below") u En [some (.ref q), some (.ref p), none, none, none, none, none] H := by
  refine ⟨.ref p, rfl, p, k, m, av, L, wd, none, rfl, hd, hk, hlen, fun v Hb wv rk kb yb => ?_⟩
  obtain ⟨lb, vs, e, hlb, pb⟩ := yb
  subst e
  obtain ⟨lk, hlk⟩ := hk.dk
  have rw0 := rk.rw_ hlk
  have hq1 := rw0.ins hq
  have dP1 := rw0.dict dP
  have dB1 := rw0.dict dB
  refine ⟨lb, rfl, ⟨vs, SqL.of hlb⟩, fun A HA hA ⟨⟨oA, eA⟩, dA⟩ => ?_⟩
  have rA : Rp T Hb HA := by rw [eA]; exact Rp.new hA
  have nA : Nw Hb A := Nw.of hA
  have vlen : vs.length = (blks L).length := pb.length
  refine gc_it (walk_list (K := K) (a := lb) (xs := vs)) (fun i H' => Rp T Hb H' ∧ ∃ kv bt, DictAt K P w H' A kv ∧ Paired (ent K H') kv bt ∧ bt.map (·.1) = ((blks L).take i).map tI ∧ (ads bt).Nodup ∧ (∀ a ∈ ads bt, Nw Hb a) ∧ ∀ e ∈ bt, Ls K H' e.2.1 [] ∧ Ls K H' e.2.2 []) ⟨rA, [], [], dA, .nil, rfl, List.nodup_nil, fun a ha => (by cases ha), fun e he => (by cases he)⟩ (fun i H' _ p => SqL.of (p.1.lst hlb)) (fun i x H3 H4 hi ⟨r3, kv, bt, dA3, lE, eb, nd, nw, cn⟩ ⟨e1, e2⟩ => ?_) fun H3 ⟨r3, kv, bt, dA3, lE, eb, nd, nw, cn⟩ => ?_
  · subst e1
    obtain ⟨b, hb, yb⟩ := paired_get pb e2
    have yb3 : yk K H4 x b := Mono.mono (T := T) (Y := yk K) r3 yb
    refine ⟨rfl, et_yes (T := T) H4 (Rp.refl _) _ fun H5 r5 => ?_⟩
    refine iteT ?_
    refine ⟨x, rfl, ?_⟩
    refine ev_fp (K := K) (T := T) (H := H5) H5 (Rp.refl _) _ fun z H6 r6 yz => ?_
    obtain ⟨a, l1, l2, ez, s, g1, g2, n12, m1, m2⟩ := yz
    subst ez
    have r56 := r5.trans r6
    have rr := r3.trans r56
    have dA6 := dA3.rp r56
    have kE : kv.map (·.1) = bt.map (·.1) := ent_keys lE
    have fresh : tI b ∉ kv.map (·.1) := by
      rw [kE, eb]
      intro z
      have hil : i < (blks L).length := (List.getElem?_eq_some_iff.mp hb).1
      have eg : (blks L)[i] = b := (List.getElem?_eq_some_iff.mp hb).2
      have split : blks L = (blks L).take i ++ b :: (blks L).drop (i + 1) := by
        rw [← eg, ← List.drop_eq_getElem_cons hil, List.take_append_drop]
      have nd0 := blks_nd g
      rw [split] at nd0
      exact (List.nodup_append.mp nd0).2.2 b (tI_mem.mp z) b List.mem_cons_self rfl
    have lenK : kv.length < sizeLine := by
      have z := congrArg List.length eb
      rw [List.length_map, List.length_map, List.length_take] at z
      rw [lE.length, z]
      have := blks_len L
      exact Nat.lt_of_le_of_lt (by omega : _ ≤ 1001) (by decide)
    have nb1 : Nw Hb l1 := r3.nw (r5.nw m1)
    have nb2 : Nw Hb l2 := r3.nw (r5.nw m2)
    refine ⟨A, kv, tI b, rfl, dA6, keyV_of (Mono.mono (T := T) (Y := yk K) r56 yb3) (keyI _), lenK, fun H7 ⟨o7, e7⟩ d7 => ?_⟩
    rw [putK_app fresh] at d7
    have tk7 : Tk H6 H7 := by rw [e7]; exact dA6.tk
    have ls7 : ∀ {a : Addr} {vs : List V}, H6 a = some (.lst vs) → H7 a = some (.lst vs) := fun {a vs} h => by rw [e7, upd_ne (raw_ne dA6 h lst_raw)]; exact h
    have tk47 : Tk H4 H7 := r56.tk.trans tk7
    refine ⟨by rw [e7]; exact rr.chgDN nA dA6, _, bt ++ [(tI b, (l1, l2))], d7, paired_snocG (ent_tk tk47 lE) ⟨rfl, a, rfl, tk7 K _ _ s⟩, ?_, ?_, ?_, ?_⟩
    · rw [List.map_append, eb, take_grow hb, List.map_append]
      rfl
    · rw [ads_app]
      refine List.nodup_append.mpr ⟨nd, by show [l1, l2].Nodup; simp [n12], fun c hc c' hc' e => ?_⟩
      have hlst : ∃ vs, H5 c = some (.lst vs) := by
        obtain ⟨f, hf, hm⟩ := List.mem_flatMap.mp hc
        obtain ⟨⟨v1, h1, _⟩, v2, h2, _⟩ := cn f hf
        rcases List.mem_cons.mp hm with z | hm
        · exact ⟨v1, by rw [z]; exact r5.lst h1⟩
        · rw [List.mem_singleton.mp hm]
          exact ⟨v2, r5.lst h2⟩
      obtain ⟨vs', hv'⟩ := hlst
      have hc' : c' ∈ [l1, l2] := hc'
      rcases List.mem_cons.mp hc' with z | hc'
      · exact m1.ne hv' (fun _ z => by cases z) (e.trans z)
      · exact m2.ne hv' (fun _ z => by cases z) (e.trans (List.mem_singleton.mp hc'))
    · intro c hc
      rw [ads_app] at hc
      rcases List.mem_append.mp hc with hc | hc
      · exact nw c hc
      · have hc : c ∈ [l1, l2] := hc
        rcases List.mem_cons.mp hc with z | hc
        · rw [z]; exact nb1
        · rw [List.mem_singleton.mp hc]; exact nb2
    · intro f hf
      rcases List.mem_append.mp hf with hf | hf
      · exact ⟨(cn f hf).1.tk (fun vs h => ls7 (r56.lst h)) tk47, (cn f hf).2.tk (fun vs h => ls7 (r56.lst h)) tk47⟩
      · rw [List.mem_singleton.mp hf]
        exact ⟨⟨[], ls7 g1, .nil⟩, [], ls7 g2, .nil⟩
  · rw [vlen, List.take_length] at eb
    have hq3 := r3.ins hq1
    refine ⟨.ref q, rfl, q, E.C_SignTrees, dx, _, rfl, hq3, E.c_SignTrees, E.n_SignTrees_below, by show 2 < 1000; decide, ?_⟩
    have ef : putF ("below" : Str) (V.ref A) ([("parent", .ref pa), ("block_of", .ref bo)] : List (Str × V)) = flT pa bo A := putF_new (show ("below" : Str) ∉ (["parent", "block_of"] : List Str) from by decide +kernel)
    rw [ef]
    have tkq : Tk H3 (upd H3 q (.ins E.C_SignTrees dx (flT pa bo A))) := tk_ins hq3
    have nAd : ∀ {c : Addr} {kv : List (D × V)}, DictAt K P w Hb c kv → c ≠ A := fun {c kv} d e => by
      obtain ⟨o, eo, _⟩ := d.raw
      obtain ⟨ps, z⟩ := nA _ (e ▸ eo)
      exact RawO.noTbl ps z
    refine kk Hb _ A bt wv rk kb nA ((Rp.rs r3).chgI rfl hq3) ⟨upd_same, ⟨pa, [], rfl, (dP1.rp r3).ins hq3, .nil⟩, ⟨[], (dB1.rp r3).ins hq3, Nat.le_refl _⟩, ⟨kv, dA3.ins hq3, ent_tk tkq lE⟩, nd, nw, fun e he => ?_, fun a n => ?_, npb, nAd dP1, nAd dB1⟩ eb
    · exact ⟨(cn e he).1.tk (fun vs h => by rw [upd_ne (ne_of h hq3 (fun z => by cases z))]; exact h) tkq, (cn e he).2.tk (fun vs h => by rw [upd_ne (ne_of h hq3 (fun z => by cases z))]; exact h) tkq⟩
    · by_cases ea : a = q
      · rw [ea] at n
        obtain ⟨ps, z⟩ := n _ upd_same
        cases z
      · exact r3.nw fun o ho => n o (by rw [upd_ne ea]; exact ho)
end
end K20
namespace K20
open PySem PySem.Spec PyProof.Rows L2
section
variable {P : Program} {w : World} {K : Fg} {mg : Str → Option Value} {base : Heap} {T : List (Addr × Str)} {H H' H1 : Hp} {σ : L2.St} {te ta tb t1 t2 t3 ts : TE}
/-! ### the lists of signs below -/
def ctA (t : TrC) (S : List (List Int)) (k : D) (sd : Bool) : List (List Int) := S.filter fun s => decide ((lu t s).map (fun p => (tI p.1, p.2)) = some (k, sd))
theorem ctA_snoc (t : TrC) (S : List (List Int)) (s : List Int) {p : PlC} (hp : lu t s = some p) (k : D) (sd : Bool) : ctA t (S ++ [s]) k sd = if tI p.1 = k ∧ p.2 = sd then ctA t S k sd ++ [s] else ctA t S k sd := by
  unfold ctA
  rw [List.filter_append]
  by_cases h : tI p.1 = k ∧ p.2 = sd
  · rw [if_pos h, List.filter_cons_of_pos (by rw [hp]; exact decide_eq_true (by rw [← h.1, ← h.2]; rfl))]
    rfl
  · rw [if_neg h, List.filter_cons_of_neg (by
      rw [hp]
      intro z
      have z := of_decide_eq_true z
      have z : (tI p.1, p.2) = (k, sd) := Option.some.inj z
      exact h ⟨congrArg Prod.fst z, congrArg Prod.snd z⟩)]
    exact List.append_nil _
theorem ctA_below (t : TrC) (q : List Int) (sd : Bool) : ctA t (sortI false (keysC t)) (tI q) sd = below t q sd := by
  unfold ctA below
  congr 1
  funext s
  cases h : lu t s with
  | none => rfl
  | some p =>
    obtain ⟨o, b⟩ := p
    refine decide_eq_decide.mpr ⟨fun z => ?_, fun z => ?_⟩
    · have z : (tI o, b) = (tI q, sd) := Option.some.inj z
      rw [tI_inj (congrArg Prod.fst z), show b = sd from congrArg Prod.snd z]
    · cases z
      rfl
/-- two addresses -/
def yAA (K : Fg) : Hp → V → Addr × Addr → Prop := fun H v e => ∃ a, v = .ref a ∧ SqT K H a [.ref e.1, .ref e.2]
instance : Imm (yAA K) := ⟨fun r ⟨a, e, s⟩ => ⟨a, e, r K _ _ s⟩⟩
theorem SB.yaa {E : Tp K mg w T base} {Hb : Hp} {q dx pa bo be : Addr} {t : TrC} {bt : Bt} {ct : D → Bool → List (List Int)} (x : SB E P Hb H q dx pa bo be t bt ct) : yM K P w (yAA K) H (.ref be) bt := by
  obtain ⟨kv, d, l⟩ := x.bel
  exact ⟨be, kv, rfl, d, l⟩
theorem ev_pick {c : Bool} {l1 l2 : Addr} (h : Ev T (yAA K) ta σ H (l1, l2)) (hc : Ev T yI tb σ H (if c then 0 else 1)) : Ev T yV (tOp (rSub K P w) ta tb) σ H (.ref (if c then l1 else l2)) := fun H1 r1 Q q =>
  h H1 r1 _ fun v H2 r2 ⟨a, e, s⟩ => hc H2 (r1.trans r2) _ fun u H3 r3 eu => by
    refine .inl ⟨a, [.ref l1, .ref l2], if c then 0 else 1, .ref (if c then l1 else l2), e, eu, r3.tup s, ?_, q _ H3 (r2.trans r3) rfl⟩
    cases c <;> rfl
/-- over, side = e -/
theorem q_un2 {u : TS} {En : Ends} {i1 i2 : Nat} {β γ : Type} {Y : Hp → V → β → Prop} {Z : Hp → V → γ → Prop} {p : β × γ} (h : Ev T (yP K Y Z) te σ H p) (k : ∀ v1 v2 H1, Rp T H H1 → Y H1 v1 p.1 → Z H1 v2 p.2 → u En ((σ.set i1 (some v1)).set i2 (some v2)) H1) :
    tSeq (tAsg te (gTup K 2 (gCons (gName i1) (gCons (gName i2) gNil)))) u En σ H := h H (Rp.refl _) _ fun v H2 r2 ⟨a, x, y, e, s, h1, h2⟩ => ⟨a, _, e, s, rfl, _, _, rfl, _, _, rfl, rfl, k _ _ H2 r2 h1 h2⟩
theorem side_eq (b : Bool) : decide (sideS b = "left") = b := by
  cases b with
  | true => exact decide_eq_true rfl
  | false => exact (by decide +kernel : decide (("right" : Str) = "left") = false)
theorem side_ok (b : Bool) : okD (.text (sideS b)) = true := by
  cases b with
  | true => exact (by decide +kernel : okD (.text "left") = true)
  | false => exact (by decide +kernel : okD (.text "right") = true)
theorem len_of_bt {L : List Deed} {t : TrC} {bt : Bt} (eb : bt.map (·.1) = (blks L ++ keysC t).map tI) : bt.length = (blks L).length + t.length := by
  have z := congrArg List.length eb
  rw [List.length_map, List.length_map, List.length_append] at z
  rw [z]
  unfold keysC
  rw [List.length_map]
theorem bt_nd {L : List Deed} (g : Good L) {bt : Bt} (eb : bt.map (·.1) = (blks L ++ keysC (ctree L)).map tI) : (bt.map (·.1)).Nodup := by
  rw [eb]
  unfold List.Nodup
  rw [List.pairwise_map]
  have nd : (blks L ++ keysC (ctree L)).Nodup := List.nodup_append.mpr ⟨blks_nd g, g.nodC, fun a ha b hb e => by
    have h2 := blks_len2 ha
    have h3 := ctree_len hb
    rw [e] at h2
    omega⟩
  exact List.Pairwise.imp (fun {a b} n z => n (tI_inj z)) nd
/-- for x in a new list -/
theorem s_forLN {β : Type} {Y : Hp → V → β → Prop} [my : Imm Y] {tl : TE} {gg : TG} {u : TS} {En : Ends} {bs : List β} (h : Ev T (yLN H Y) tl σ H bs)
    (k : ∀ H2 a vs, Rp T H H2 → H2 a = some (.lst vs) → Nw H a → ∃ Pv : Nat → L2.St → Hp → Prop, Pv 0 σ H2 ∧ (∀ i σ' H', Pv i σ' H' → Tk H2 H' ∧ H' a = some (.lst vs)) ∧ (∀ i b σ' H' x, bs[i]? = some b → Pv i σ' H' → Y H' x b → gg x σ' H' fun σ3 H3 => u { En with nx := Pv (i + 1), ct := Pv (i + 1), bk := En.nx } σ3 H3) ∧ ∀ σ' H', Pv bs.length σ' H' → En.nx σ' H') :
    tFor (iList K tl) gg u En σ H := h H (Rp.refl _) _ fun v H2 r2 ⟨a, vs, e, ha, na, l⟩ => by
  obtain ⟨Pv, p0, pk, ps, pe⟩ := k H2 a vs r2 ha na
  subst e
  refine ⟨a, rfl, ⟨vs, SqL.of ha⟩, ?_⟩
  refine for_it (walk_list (K := K) (a := a) (xs := vs)) Pv p0 (fun i σ' H' _ p => SqL.of (pk i σ' H' p).2) (fun i x σ' H3 H4 hi p ⟨e1, e2⟩ => ?_) (fun σ' H' p => pe σ' H' (by rw [← l.length]; exact p))
  subst e1
  obtain ⟨b, hb, yb⟩ := paired_get l e2
  exact ps i b σ' H4 x hb p (my.imm (pk i σ' H4 p).1 yb)
/-- the second loop -/
theorem init_lists {E : Tp K mg w T base} {En : Ends} {Hb : Hp} {q dx pa bo be p : Addr} {L : List Deed} {bt : Bt} {hv : Option V} (g : Good L) (hlen : L.length ≤ 1000) (hlt : (ctree L).length ≤ 3000) (x : SB E P Hb H q dx pa bo be (ctree L) bt noC) (eb : bt.map (·.1) = (blks L ++ keysC (ctree L)).map tI)
    (kk : ∀ σ' H', Rs T (fun a => a ∈ ads bt) H H' → SB E P Hb H' q dx pa bo be (ctree L) bt (ctA (ctree L) (sortI false (keysC (ctree L)))) → En.nx σ' H') :
    tFor (iList K (tCB (rSortT K false) (tCons (tCB (rListK K P w) (tCons (tFld K (tVar 0) "parent") tNil)) tNil))) (gName 3)
      (tSeq (tAsg (tOp (rSub K P w) (tFld K (tVar 0) "parent") (tVar 3)) (gTup K 2 (gCons (gName 4) (gCons (gName 5) gNil))))
        (tDrop (tBM K "list" rAppend (tOp (rSub K P w) (tOp (rSub K P w) (tFld K (tVar 0) "below") (tVar 4)) (tIf (tTest (tOp (rEqK K) (tVar 5) (tC (.str "left")))) (tC (.int 0)) (tC (.int 1)))) (tCons (tVar 3) tNil)))) En [some (.ref q), some (.ref p), hv, none, none, none, none] H := by
  have ndt := bt_nd g eb
  have hsort : Ev T (yLN H (yk K)) (tCB (rSortT K false) (tCons (tCB (rListK K P w) (tCons (tFld K (tVar 0) "parent") tNil)) tNil)) [some (.ref q), some (.ref p), hv, none, none, none, none] H (sortI false (keysC (ctree L))) := fun H1 r1 Q qq => by
    refine ev_keys (K := K) (P := P) (w := w) (T := T) (Z := ypl K) (ms := ptab (ctree L)) (ks := keysC (ctree L)) (ev_par (E := E) (ev_var (i := 0) rfl x.tr)) (ptab_keys _) ?_ H1 r1 _ fun v H2 r2 ⟨a, vs, e, ha, la⟩ => ?_
    · unfold keysC
      rw [List.length_map]
      exact Nat.le_trans hlt (by decide)
    · refine ⟨a, vs, _, by rw [e], SqL.of ha, la, fun s hs z => ?_, fun c hc zs hz => qq _ _ (r2.trans (Rp.new hc)) ⟨c, zs, rfl, upd_same, (r1.trans r2).nw (Nw.of hc), Paired.mapP hz fun _ _ y => Mono.mono (T := T) (Y := yk K) (Rp.new hc) y⟩⟩
      have := ctree_len hs
      rw [z] at this
      cases this
  refine s_forLN (T := T) (Y := yk K) hsort fun H2 ls vs r2 hls nls => ?_
  have x2 := x.rp r2
  have lsn : ∀ {c : Addr}, c ∈ ads bt → ls ≠ c := fun {c} hc e => by
    obtain ⟨us, hu⟩ := ads_lst x hc
    exact nls.ne hu (fun _ z => by cases z) e.symm
  refine ⟨fun i σ' H' => Tk H2 H' ∧ H' ls = some (.lst vs) ∧ Rs T (fun a => a ∈ ads bt) H2 H' ∧ (∃ a b c, σ' = [some (.ref q), some (.ref p), hv, a, b, c, none]) ∧ SB E P Hb H' q dx pa bo be (ctree L) bt (ctA (ctree L) ((sortI false (keysC (ctree L))).take i)), ⟨Tk.refl _, hls, Rs.refl _, ⟨none, none, none, rfl⟩, ?_⟩, fun i σ' H' p => ⟨p.1, p.2.1⟩, ?_, ?_⟩
  · rw [List.take_zero]
    exact x2
  · rintro i s σ' H' sv hi ⟨tk, hls', rs, ⟨a, b, c, eσ⟩, x'⟩ ys
    subst eσ
    have hs : s ∈ keysC (ctree L) := mem_sortI.mp (List.mem_of_getElem? hi)
    obtain ⟨pl, epl⟩ := lu_some (t := ctree L) hs
    have self : ∀ (σ'' : L2.St) H3, σ''[0]? = some (some (.ref q)) → Rp T H' H3 → Ev T (yTr E P) (tVar 0) σ'' H3 (ctree L) := fun σ'' H3 e r => ev_var e (Mono.mono r x'.tr)
    show tSeq _ _ _ ([some (.ref q), some (.ref p), hv, some sv, b, c, none] : L2.St) H'
    refine q_un2 (T := T) (K := K) (Y := yk K) (Z := yS) (p := (pl.1, sideS pl.2)) (ev_plc (E := E) (self _ _ rfl (Rp.refl _)) (ev_var (i := 3) rfl ys) epl) fun ov sd H3 r3 yov ysd => ?_
    obtain rfl : sd = V.str (sideS pl.2) := ysd
    have x3 := x'.rp r3
    have hmem : tI pl.1 ∈ bt.map (·.1) := by
      rw [eb, List.map_append]
      rcases lu_below g epl with hb | hk
      · exact List.mem_append_left _ (tI_mem.mpr (mem_blks hb))
      · exact List.mem_append_right _ (tI_mem.mpr hk)
    obtain ⟨e, he, ek⟩ := List.mem_map.mp hmem
    have elu : lu bt (tI pl.1) = some e.2 := mem_lu ndt (by rw [← ek]; exact he)
    have hla : (if pl.2 then e.2.1 else e.2.2) ∈ ads bt := by
      cases pl.2 with
      | true => exact (ads_mem he).1
      | false => exact (ads_mem he).2
    obtain ⟨ws, hws⟩ := ads_lst x3 hla
    have lws : ws.length < sizeLine := by
      have cn := x3.cnt e he
      have fl : ∀ k sd, (ctA (ctree L) ((sortI false (keysC (ctree L))).take i) k sd).length ≤ 3000 := fun k sd => by
        refine Nat.le_trans (List.length_filter_le _ _) ?_
        rw [List.length_take, (sortI_perm _ _).length_eq]
        unfold keysC
        rw [List.length_map]
        omega
      cases hsd : pl.2 with
      | true =>
        rw [hsd] at hws
        obtain ⟨v1, h1, p1⟩ := cn.1
        have h1' : H3 e.2.1 = some (.lst ws) := hws
        rw [h1] at h1'
        cases h1'
        rw [p1.length]
        exact Nat.lt_of_le_of_lt (fl _ _) (by decide)
      | false =>
        rw [hsd] at hws
        obtain ⟨v1, h1, p1⟩ := cn.2
        have h1' : H3 e.2.2 = some (.lst ws) := hws
        rw [h1] at h1'
        cases h1'
        rw [p1.length]
        exact Nat.lt_of_le_of_lt (fl _ _) (by decide)
    refine s_append (T := T) (Y := yk K) (b := s) (σ := [some (.ref q), some (.ref p), hv, some sv, some ov, some (.str (sideS pl.2)), none]) (l := if pl.2 then e.2.1 else e.2.2) (ev_pick (l1 := e.2.1) (l2 := e.2.2) (c := pl.2) (ev_suK (ms := bt) (k := tI pl.1) (ev_fld (ev_var (i := 0) (b := V.ref q) rfl rfl) x3.obj E.c_SignTrees E.n_SignTrees_below ft_bel x3.yaa) (ev_kD (ev_var (i := 4) rfl yov)) (keyI _) elu) ?_) (ev_var (i := 3) rfl (Mono.mono (T := T) (Y := yk K) r3 ys)) hws lws fun v4 H4 r4 y4 => ?_
    · refine ev_ifE (c := pl.2) (evT_eq (et_test (ev_eqT (ev_var (i := 5) rfl rfl) ev_str (side_ok _) (by decide +kernel))) (side_eq _)) (fun z => ?_) (fun z => ?_)
      · rw [z]; exact ev_int
      · rw [z]; exact ev_int
    · have x4 := x3.rp r4
      have hws4 := r4.lst hws
      refine ⟨(tk.trans (r3.trans r4).tk).trans (Tk.updL hws4), ?_, (rs.trans (r3.trans r4).rs).chgL hla hws4, ⟨_, _, _, rfl⟩, ?_⟩
      · rw [upd_ne (lsn hla)]
        exact (r3.trans r4).lst hls'
      · rw [take_grow hi]
        refine x4.app hla hws4 y4 (fun f hf => ?_) fun f hf => ?_
        · rw [ctA_snoc _ _ _ epl]
          have cond : (tI pl.1 = f.1 ∧ pl.2 = true) ↔ f.2.1 = (if pl.2 then e.2.1 else e.2.2) := by
            obtain ⟨i1, i2, i3⟩ := ads_inj x.nd hf he
            cases hsd : pl.2 with
            | true =>
              refine ⟨fun z => ?_, fun z => ⟨?_, rfl⟩⟩
              · have z2 := mem_lu ndt (show (f.1, f.2) ∈ bt from hf)
                rw [← z.1, elu] at z2
                rw [← Option.some.inj z2]
                rfl
              · rw [i1 z, ek]
            | false => exact ⟨fun z => (by cases z.2), fun z => absurd z i3⟩
          by_cases h : tI pl.1 = f.1 ∧ pl.2 = true
          · rw [if_pos h, if_pos (cond.mp h)]
          · rw [if_neg h, if_neg (fun z => h (cond.mpr z))]
        · rw [ctA_snoc _ _ _ epl]
          have cond : (tI pl.1 = f.1 ∧ pl.2 = false) ↔ f.2.2 = (if pl.2 then e.2.1 else e.2.2) := by
            obtain ⟨i1, i2, i3⟩ := ads_inj x.nd hf he
            obtain ⟨_, _, i4⟩ := ads_inj x.nd he hf
            cases hsd : pl.2 with
            | true => exact ⟨fun z => (by cases z.2), fun z => absurd z.symm i4⟩
            | false =>
              refine ⟨fun z => ?_, fun z => ⟨?_, rfl⟩⟩
              · have z2 := mem_lu ndt (show (f.1, f.2) ∈ bt from hf)
                rw [← z.1, elu] at z2
                rw [← Option.some.inj z2]
                rfl
              · rw [i2 z, ek]
          by_cases h : tI pl.1 = f.1 ∧ pl.2 = false
          · rw [if_pos h, if_pos (cond.mp h)]
          · rw [if_neg h, if_neg (fun z => h (cond.mpr z))]
  · rintro σ' H' ⟨tk, hls', rs, _, x'⟩
    rw [List.take_length] at x'
    exact kk σ' H' (r2.rs.trans rs) x'
end
end K20
namespace K20
open PySem PySem.Spec PyProof.Rows L2
section
variable {P : Program} {w : World} {K : Fg} {mg : Str → Option Value} {base : Heap} {T : List (Addr × Str)} {H H' H1 : Hp} {σ : L2.St} {te ta tb t1 t2 t3 ts : TE}
theorem KeptOk.rs0 {E : Tp K mg w T base} {av k : Addr} {L : List Deed} {wd : Option V} {S : Addr → Prop} (r : Rs T S H H') (hS : ∀ a o, S a → H a = some o → (∀ l, o ≠ .dK l) ∧ (∀ ob u, o ≠ .frz ob u) ∧ (∀ xs, o ≠ .lst xs) ∧ ∀ xs, o ≠ .tup xs) (h : KeptOk E P av H k L wd none) : KeptOk E P av H' k L wd none := by
  obtain ⟨kvs, h1, h2, e1, e2, h3, h4⟩ := h.ex
  have tk : Tk H H' := fun K a xs h => by
    rcases h with (h | ⟨o, h⟩) | h
    · exact .inl (.inl (r.keep _ _ (fun z => (hS _ _ z h).2.2.2 xs rfl) h (fun _ z => by cases z)))
    · exact .inl (.inr ⟨o, r.keep _ _ (fun z => (hS _ _ z h).2.1 _ _ rfl) h (fun _ z => by cases z)⟩)
    · exact .inr h
  refine ⟨kvs, r.keep _ _ (fun z => (hS _ _ z h1).1 kvs rfl) h1 (fun _ z => by cases z), h2, e1, e2, fun v e => ?_, fun v e => by cases e⟩
  obtain ⟨a, o, ws, ev, g1, g2, g3⟩ := h3 v e
  refine ⟨a, o, ws, ev, r.keep _ _ (fun z => (hS _ _ z g1).2.1 _ _ rfl) g1 (fun _ z => by cases z), g2, fun z u q => ?_⟩
  obtain ⟨l, vs, eu, hl, pl⟩ := g3 z u q
  exact ⟨l, vs, eu, r.keep _ _ (fun z => (hS _ _ z hl).2.2.1 _ rfl) hl (fun _ z => by cases z), paired_imm tk pl⟩
theorem sc_SignTrees___init__ : FnScope ["self", "d", "name", "sign", "over", "side", "block"] ["self", "d"] (defScope s_SignTrees___init__) := ⟨rfl, rfl, rfl, by decide +kernel, rfl, by decide +kernel, by decide +kernel⟩
theorem bd_SignTrees___init__ (E : Tp K mg w T base) : Binds K E.d_SignTrees___init__ ["self", "d"] [] := E.F_SignTrees___init__.bindsN fun _ _ _ _ _ _ us hl => match us, hl with | [_, _], _ => rfl
def sp_tinit (E : Tp K mg w T base) (P : Program) : Sp := fun vs H Q _ => ∃ (H0 : Hp) (q dx p k m av : Addr) (L : List Deed) (wd : Option V), vs = [.ref q, .ref p] ∧ Rp T H0 H ∧ Nw H0 q ∧ H q = some (.ins E.C_SignTrees dx []) ∧ DObj E P H0 p L k m ∧ KeptOk E P av H0 k L wd none ∧ Good L ∧ L.length ≤ 1000 ∧ (∃ o, H0 av = some o ∧ ∀ ps, o ≠ .tbl ps) ∧
  ∀ H' wv, Rk T k H0 H' → KeptOk E P av H' k L (some wv) none → TreesOk E P av H' (.ref q) L → Q .non H'
theorem ok_SignTrees___init__ (E : Tp K mg w T base) : FnOk P w K mg base CX0 4 E.f_SignTrees___init__ E.d_SignTrees___init__ ["self", "d"] (sp_tinit E P) := by
  refine E.F_SignTrees___init__.ok sc_SignTrees___init__ (fun vs H Q Ex h => ?_) (fun cdv Ar outer s H vs Q Ex hr h => ⟨_, PSs.nox (pss_cons (ps_fld (pv 0) (pe_knew) rfl) (pss_cons (ps_fld (pv 0) (pe_knew) rfl) (pss_cons (ps_fld (pv 0) (pe_kdc (own := [("block", 6)]) (g := gName 6) (tt := tYes) (hu9 hr) rfl sc_SignTrees___init__.nd (pi_list (pe_call (ok_blocks_in (T := T) E) (hr.mono (by decide)) (by rfl) E.g_blocks_in E.F_blocks_in.kp (bd_blocks_in E) .nil pass0 (pa_cons (pv 1) pa_nil))) (blkOk_by (own := [("block", 6)]) (N := ["self", "d", "name", "sign", "over", "side", "block"]) (sc := defScope s_SignTrees___init__) (by decide +kernel)) (fun _ _ _ _ _ => (pg_name (i := 6) sc_SignTrees___init__.nd rfl (.inl rfl))) (fun _ _ _ _ _ => pts_nil) (fun _ _ _ _ _ => (pv 6)) (fun _ _ _ _ _ => (pe_tup (pa_cons (pe_lst pa_nil) (pa_cons (pe_lst pa_nil) pa_nil))))) rfl) (pss_cons (ps_for PassesOwn.never rfl (pi_list (pe_call (ok_named_by (T := T) E) (hr.mono (by decide)) (by rfl) E.g_named_by E.F_named_by.kp (bd_named_by E) .nil pass0 (pa_cons (pv 1) (pa_cons pe_str pa_nil)))) (pg_name (i := 2) sc_SignTrees___init__.nd rfl (.inl rfl)) (pss_one (ps_expr (pe_meth (pv 0) E.c_SignTrees E.m_SignTrees_hang_text (ok_SignTrees_hang_text (T := T) E) (hr.mono (by decide)) (bd_SignTrees_hang_text E) .nil pass0 (pa_cons (pv 2) (pa_cons (pe_call (ok_act_of (T := T) E) (hr.mono (by decide)) (by rfl) E.g_act_of E.F_act_of.kp (bd_act_of E) .nil pass0 (pa_cons (pv 1) (pa_cons (pv 2) pa_nil))) pa_nil)))))) (pss_one (ps_for PassesOwn.never rfl (pi_list (pe_callB (cr_sortT (hu9 hr)) (by rfl) E.sorted (by decide +kernel) (pa_cons (pe_callTy (cr_listK rfl) (by rfl) E.list (by decide +kernel) (pa_cons (pe_fld (pv 0) (by rfl)) pa_nil)) pa_nil))) (pg_name (i := 3) sc_SignTrees___init__.nd rfl (.inl rfl)) (pss_cons (ps_asg (pe_ix (ix_any (hu9 hr)) (pe_fld (pv 0) (by rfl)) (pv 3) (fun _ _ => by rfl)) (pg_tup rfl (pgs_cons (pg_name (i := 4) sc_SignTrees___init__.nd rfl (.inl rfl)) (pgs_cons (pg_name (i := 5) sc_SignTrees___init__.nd rfl (.inl rfl)) pgs_nil)))) (pss_one (ps_expr (pe_bm PySem.F.plainAttrs_list PySem.F.slot_list_append PySem.F.type_list_append mt_append (pe_ix (ix_any (hu9 hr)) (pe_ix (ix_any (hu9 hr)) (pe_fld (pv 0) (by rfl)) (pv 4) (fun _ _ => by rfl)) (pe_ifExp (pt_cmpR (op_eqK (hu64 hr)) (pv 5) pe_str (nomark _)) pe_int pe_int) (fun _ _ => by rfl)) (pa_cons (pv 3) pa_nil))))))))))), ?_⟩)
  · obtain ⟨H0, q, dx, p, k, m, av, L, wd, rfl, _⟩ := h
    rfl
  obtain ⟨H0, q, dx, p, k, m, av, L, wd, rfl, r0, nq, hq, hd, hk, g, hlen, ⟨oav, hav, nav⟩, kk⟩ := h
  have C := E.c_SignTrees
  have self : ∀ H' : Hp, Ev T yV (tVar 0) (start ["self", "d", "name", "sign", "over", "side", "block"] [.ref q, .ref p]) H' (.ref q) := fun H' => ev_var rfl rfl
  obtain ⟨lk0, hk0⟩ := hk.dk
  -- parent
  refine q_fld (T := T) (Y := yKN K P w H) (b := []) ev_knew (self _) hq C E.n_SignTrees_parent (by decide) (fun v1 H1 r1 ⟨pa, e1, d1, npa⟩ => ?_) yKN_mono
  subst e1
  have hq1 := r1.ins hq
  have rA : Rp T H0 (upd H1 q (.ins E.C_SignTrees dx [("parent", .ref pa)])) := (r0.trans r1).chgIN nq hq1
  have dA := d1.ins (o := .ins E.C_SignTrees dx [("parent", .ref pa)]) hq1
  have hqA : upd H1 q (.ins E.C_SignTrees dx [("parent", .ref pa)]) q = some (.ins E.C_SignTrees dx [("parent", .ref pa)]) := upd_same
  have npa0 := r0.nw npa
  show tSeq _ _ _ _ (upd H1 q (.ins E.C_SignTrees dx [("parent", .ref pa)]))
  generalize upd H1 q (.ins E.C_SignTrees dx [("parent", .ref pa)]) = HA at rA dA hqA ⊢
  clear hq1 d1 npa r1
  refine q_fld (T := T) (Y := yKN K P w HA) (b := []) ev_knew (self _) hqA C E.n_SignTrees_block_of (by show 1 < 1000; decide) (fun v2 H2 r2 ⟨bo, e2, d2, nbo⟩ => ?_) yKN_mono
  subst e2
  have e2 : putF ("block_of" : Str) (V.ref bo) [("parent", .ref pa)] = ([("parent", .ref pa), ("block_of", .ref bo)] : List (Str × V)) := putF_new (show ("block_of" : Str) ∉ (["parent"] : List Str) from by decide +kernel)
  rw [e2]
  have hq2 := r2.ins hqA
  have npb : pa ≠ bo := fun e => by
    obtain ⟨o, eo, _⟩ := dA.raw
    rw [e] at eo
    obtain ⟨ps, z⟩ := nbo _ eo
    exact RawO.noTbl ps z
  have rB : Rp T H0 (upd H2 q (.ins E.C_SignTrees dx [("parent", .ref pa), ("block_of", .ref bo)])) := (rA.trans r2).chgIN nq hq2
  have dPB := (dA.rp r2).ins (o := .ins E.C_SignTrees dx [("parent", .ref pa), ("block_of", .ref bo)]) hq2
  have dBB := d2.ins (o := .ins E.C_SignTrees dx [("parent", .ref pa), ("block_of", .ref bo)]) hq2
  have hqB : upd H2 q (.ins E.C_SignTrees dx [("parent", .ref pa), ("block_of", .ref bo)]) q = some (.ins E.C_SignTrees dx [("parent", .ref pa), ("block_of", .ref bo)]) := upd_same
  have nbo0 := rA.nw nbo
  generalize upd H2 q (.ins E.C_SignTrees dx [("parent", .ref pa), ("block_of", .ref bo)]) = HB at rB dPB dBB hqB ⊢
  clear hq2 d2 nbo r2 dA hqA rA
  have hkB := rB.keep _ _ hk0 (fun _ z => by cases z)
  refine init_below (E := E) (T := T) (H := HB) (q := q) (dx := dx) (p := p) (k := k) (m := m) (av := av) (wd := wd) g hlen hqB dPB dBB npb (hd.rp rB) (hk.rp rB) (fun n => by obtain ⟨ps, z⟩ := n _ hqB; cases z) fun Hb HC be bt wv rkb kb nbe rsq sb eb => ?_
  have rwB := rkb.rw_ hkB
  have rkb0 : Rk T k H0 Hb := rB.rk.trans rkb
  have kbd : ∃ l, Hb k = some (.dK l) := kb.dk
  have nwb : ∀ c, Nw Hb c → Nw H0 c := fun c n => n.rk rkb0 (fun e => by
    obtain ⟨l, hl⟩ := kbd
    rw [e] at n
    obtain ⟨ps, z⟩ := n _ hl
    cases z)
  have nw3 : ∀ c, in3 pa bo be c → Nw H0 c := fun c h => by
    rcases h with e | e | e
    · rw [e]; exact npa0
    · rw [e]; exact nbo0
    · rw [e]; exact nwb _ nbe
  have rkC : Rk T k H0 HC := rsq.rk rkb0 (fun a e => by rw [e]; exact nq)
  have kC : KeptOk E P av HC k L (some wv) none := kb.rs0 rsq (fun a o e h => by
    subst e
    rw [rwB.ins hqB] at h
    cases h
    exact ⟨fun _ z => (by cases z), fun _ _ z => (by cases z), fun _ z => (by cases z), fun _ z => (by cases z)⟩)
  -- the first loop
  refine ⟨.ref p, rfl, p, k, m, av, L, "write", some wv, none, rfl, hd.rw_ (rkC.rw_ hk0), kC, hlen, fun v HD wv' rkD hw kD yD => ?_⟩
  obtain ⟨rD, _⟩ := hw wv rfl
  obtain ⟨a, vs, e, ha, la⟩ := yD
  subst e
  have rkD0 : Rk T k H0 HD := rkC.trans rD.rk
  generalize hW : L.filter (isW "write") = W at la
  have vlen : vs.length = W.length := la.length
  refine ⟨a, rfl, ⟨vs, SqL.of ha⟩, ?_⟩
  refine for_it (walk_list (K := K) (a := a) (xs := vs)) (fun i σ' H' => Rs T (in3 pa bo be) HD H' ∧ Tk HD H' ∧ H' a = some (.lst vs) ∧ (∃ hv, σ' = [some (.ref q), some (.ref p), hv, none, none, none, none]) ∧ (ctree (W.take i)).length ≤ 3 * i ∧ ∃ bt, bt.map (·.1) = (blks L ++ keysC (ctree (W.take i))).map tI ∧ SB E P Hb H' q dx pa bo be (ctree (W.take i)) bt noC)
    ⟨Rs.refl _, Tk.refl _, ha, ⟨none, rfl⟩, Nat.le_refl _, bt, by rw [List.take_zero]; show _ = (blks L ++ []).map tI; rw [List.append_nil]; exact eb, by rw [List.take_zero]; exact sb.rp rD⟩ (fun i σ' H' _ p => SqL.of p.2.2.1) (fun i xv σ' H3 H4 hi ⟨rs, tk, ha', ⟨hv, eσ⟩, hl, bt', eb', sb'⟩ ⟨e1, e2⟩ => ?_) fun σ' H' ⟨rs, tk, ha', ⟨hv, eσ⟩, hl, bt', eb', sb'⟩ => ?_
  · subst e1 eσ
    obtain ⟨x, hx, yx⟩ := paired_get la e2
    have yx4 : yid K H4 xv x := Imm.imm tk yx
    have hxW := List.mem_of_getElem? hx
    rw [← hW] at hxW
    obtain ⟨hxL, hxw⟩ := List.mem_filter.mp hxW
    obtain ⟨b, l, r, mm, hact⟩ := word_write hxw
    have rdy := hang_ready g (by rw [hW]; exact hx) hact
    rw [hW] at rdy
    obtain ⟨y1, y2, m1, m3⟩ := rdy
    have il : i < W.length := (List.getElem?_eq_some_iff.mp hx).1
    have Wl : W.length ≤ 1000 := by rw [← hW]; exact Nat.le_trans (List.length_filter_le _ _) hlen
    have rk4 : Rk T k H0 H4 := rs.rk rkD0 nw3
    have d4 : yDo E P H4 (.ref p) L := ⟨p, k, m, rfl, hd.rw_ (rk4.rw_ hk0)⟩
    refine ⟨.ref q, rfl, q, dx, _, rfl, sb'.obj, ft_no (by decide +kernel), ?_⟩
    refine ⟨xv, rfl, ?_⟩
    refine ev_c2 (T := T) (Y := yact K) (Y1 := yDo E P) (Y2 := yid K) (f := fun p => p.2.act) (a := L) (b := x) (pre := fun p => p.2 ∈ p.1) (E := E0) (σ := [some (.ref q), some (.ref p), some xv, none, none, none, none]) (ev_var (i := 1) rfl d4) (ev_var (i := 2) rfl yx4) hxL H4 (Rp.refl _) _ fun av' H5 r5 ya => ?_
    have lb' := len_of_bt eb'
    have bl := blks_len L
    refine ⟨Hb, q, dx, pa, bo, be, _, bt', x, b, l, r, mm, xv, av', rfl, sb'.rp r5, Mono.mono (T := T) (Y := yid K) r5 yx4, ya, hact, m1, m3, y1, y2, fun j z => ?_, by omega, by omega, fun H6 bt6 rs6 eb6 sb6 => ?_⟩
    · rw [eb'] at z
      rcases List.mem_append.mp (tI_mem.mp z) with z | z
      · have := blks_len2 z
        rw [sg_len] at this
        omega
      · exact y2 j z
    · have rs46 := (Rp.rs r5).trans rs6
      have ha6 : H6 a = some (.lst vs) := sb'.keep rs46 ha' (fun u => lst_raw u) (fun _ z => by cases z)
      refine ⟨rs.trans rs46, tk.trans (sb'.tk rs46), ha6, ⟨_, rfl⟩, ?_, bt' ++ bt6, ?_, ?_⟩
      · rw [ctree_step hx hact, List.length_append]
        unfold hangC
        rw [List.length_map, List.length_range]
        omega
      · rw [List.map_append, eb', eb6, ctree_step hx hact, ← List.map_append]
        congr 1
        unfold keysC
        rw [List.map_append, List.append_assoc]
        congr 2
        exact (hangC_keys x _ mm).symm
      · rw [ctree_step hx hact]
        exact sb6
  · subst eσ
    rw [vlen, List.take_length, ← hW, ctree_filter] at eb' sb'
    have hl3 : (ctree L).length ≤ 3000 := by
      rw [vlen, List.take_length, ← hW, ctree_filter] at hl
      have := List.length_filter_le (isW "write") L
      omega
    dsimp only
    refine init_lists (E := E) (T := T) (q := q) (p := p) (hv := hv) g hlen hl3 sb' eb' fun σ2 HE rsE sbE => ?_
    have rk4 : Rk T k H0 H' := rs.rk rkD0 nw3
    have rkE : Rk T k H0 HE := rsE.rk rk4 (fun c hc => nwb _ (sb'.nw c hc))
    have rsb : Rs T (fun c => c = q ∨ c = pa ∨ c = bo) Hb HE := by
      have z1 : Rs T (fun c => c = q ∨ c = pa ∨ c = bo) Hb HC := Rs.sub (Rs.refl _) rsq (fun c e => .inl (.inl e))
      have z2 : Rs T (fun c => c = q ∨ c = pa ∨ c = bo) Hb HD := z1.trans rD.rs
      have z3 : Rs T (fun c => c = q ∨ c = pa ∨ c = bo) Hb H' := Rs.sub z2 rs (fun c e => by
        rcases e with e | e | e
        · exact .inl (.inr (.inl e))
        · exact .inl (.inr (.inr e))
        · exact .inr (by rw [e]; exact nbe))
      exact Rs.sub z3 rsE (fun c hc => .inr (sb'.nw c hc))
    have kE : KeptOk E P av HE k L (some wv) none := kb.rs0 rsb (fun c o hc h => by
      have rawc : ∀ {c : Addr} {o : HO}, DictAt K P w HB c [] → Hb c = some o → (∀ l, o ≠ .dK l) ∧ (∀ ob u, o ≠ .frz ob u) ∧ (∀ xs, o ≠ .lst xs) ∧ ∀ xs, o ≠ .tup xs := fun {c o} d h => by
        obtain ⟨u, e, _⟩ := (rwB.dict d).raw
        rw [e] at h
        cases h
        exact ⟨fun l z => dK_raw u z.symm, fun ob u z => RawO.noFrz _ z, fun xs z => lst_raw u z.symm, fun xs z => RawO.noTup _ z⟩
      rcases hc with e | e | e
      · subst e
        rw [rwB.ins hqB] at h
        cases h
        exact ⟨fun _ z => (by cases z), fun _ _ z => (by cases z), fun _ z => (by cases z), fun _ z => (by cases z)⟩
      · subst e
        exact rawc dPB h
      · subst e
        exact rawc dBB h)
    refine kk HE wv rkE kE ⟨q, dx, pa, bo, be, _, rfl, sbE.obj, sbE.par, sbE.ybel, fun qq hqq => ?_, fun e => npa0.ne hav nav e.symm, fun e => (nwb _ nbe).ne hav nav e.symm⟩
    have hm : tI qq ∈ bt'.map (·.1) := by
      rw [eb', List.map_append]
      rcases hqq with hb | hk
      · exact List.mem_append_left _ (tI_mem.mpr (mem_blks hb))
      · exact List.mem_append_right _ (tI_mem.mpr hk)
    obtain ⟨e, he, ek⟩ := List.mem_map.mp hm
    have z : lu (bt'.map fun e => (e.1, (ctA (ctree L) (sortI false (keysC (ctree L))) e.1 true, ctA (ctree L) (sortI false (keysC (ctree L))) e.1 false))) (tI qq) = some (ctA (ctree L) (sortI false (keysC (ctree L))) (tI qq) true, ctA (ctree L) (sortI false (keysC (ctree L))) (tI qq) false) := by
      refine mem_lu ?_ (List.mem_map.mpr ⟨e, he, by rw [ek]⟩)
      rw [List.map_map]
      exact bt_nd g eb'
    rw [z, ctA_below, ctA_below]
end
end K20
namespace K20
open PySem PySem.Spec PyProof.Rows L2
theorem Runs.len {t : Tr} {st : List (List Int × Bool)} {out res : List (List Int)} {n : Nat} (h : Runs t st out res n) : st.length ≤ n ∧ out.length ≤ res.length := by
  induction h with
  | nil out => exact ⟨Nat.le_refl _, Nat.le_refl _⟩
  | op h ih =>
    rw [List.length_append, List.length_cons, List.length_append] at ih
    rw [List.length_cons]
    omega
  | out h ih =>
    rw [List.length_append, List.length_singleton] at ih
    rw [List.length_cons]
    omega
/-- the walk over a block's tree -/
inductive RC (t : Tr) (b : List Int) : List (List Int × Bool) → List (List Int) → Nat → Prop
  | start {n : Nat} : Runs t ((kids t none false).map (·, true)) [] (rowOf t) n → n ≤ 2 * t.length → RC t b [(b, true)] [] (n + 2)
  | blk {n : Nat} : Runs t ((kids t none false).map (·, true)) [] (rowOf t) n → n ≤ 2 * t.length → RC t b ((b, false) :: (kids t none false).map (·, true)) [] (n + 1)
  | run {st : List (List Int × Bool)} {out : List (List Int)} {n : Nat} : Runs t st out (rowOf t) n → n ≤ 2 * t.length → (∀ e ∈ st, e.1 ∈ keys t) → RC t b st out n
theorem mem_kT {t : Tr} {p : Option (List Int)} {sd : Bool} {e : List Int × Bool} (h : e ∈ (kids t p sd).map (·, true)) : e.1 ∈ keys t := by
  obtain ⟨c, hc, rfl⟩ := List.mem_map.mp h
  exact List.mem_map.mpr ⟨_, mem_kids.mp hc, rfl⟩
section
variable {P : Program} {w : World} {K : Fg} {mg : Str → Option Value} {base : Heap} {T : List (Addr × Str)} {H H' H1 : Hp} {σ : L2.St} {te ta tb t1 t2 t3 ts : TE}
theorem ev_revL {β : Type} {Y : Hp → V → β → Prop} [my : Mono T Y] {bs : List β} (h : Ev T (yL Y) te σ H bs) : Ev T (yL Y) (tRevL K te) σ H bs.reverse := fun H1 r1 Q q => h H1 r1 _ fun v H2 r2 ⟨a, vs, e, ha, l⟩ =>
  ⟨a, vs, e, SqL.of ha, fun p hp => q _ _ (r2.trans (Rp.new hp)) ⟨p, _, rfl, upd_same, paired_mono (Rp.new (T := T) hp) (rev l)⟩⟩
where rev {β : Type} {F : V → β → Prop} : ∀ {vs : List V} {bs : List β}, Paired F vs bs → Paired F vs.reverse bs.reverse
  | _, _, .nil => .nil
  | _, _, .cons a t => by
    rw [List.reverse_cons, List.reverse_cons]
    exact paired_snocG (rev t) a
theorem paired_unsnoc {α β : Type} {F : α → β → Prop} {y : β} : ∀ {xs : List α} {ys : List β}, Paired F xs (ys ++ [y]) → ∃ xs' x, xs = xs' ++ [x] ∧ Paired F xs' ys ∧ F x y
  | _, [], h => by
    cases h with
    | cons a t =>
      cases t
      exact ⟨[], _, rfl, .nil, a⟩
  | _, z :: ys, h => by
    cases h with
    | cons a t =>
      obtain ⟨xs', x, e, p, f⟩ := paired_unsnoc t
      exact ⟨_ :: xs', x, by rw [e]; rfl, .cons a p, f⟩
/-- the whole object -/
def yTf (E : Tp K mg w T base) (P : Program) : Hp → V → List Deed → Prop := fun H v L => ∃ av, TreesOk E P av H v L
instance {E : Tp K mg w T base} : Mono T (yTf E P) := ⟨fun r ⟨av, h⟩ => ⟨av, h.rw_ r.rw_⟩⟩
theorem isTf {E : Tp K mg w T base} {L : List Deed} {m : Str} (hm : (["parent", "block_of", "below"] : List Str).all (fun g => !(m == g)) = true) : IsO E.C_SignTrees m (yTf E P) T H L := fun H1 v r ⟨av, h⟩ => by
  obtain ⟨q, dx, pa, bo, be, bms, e, ho, _⟩ := h.ex
  exact ⟨q, dx, _, e, ho, ft_no hm⟩
theorem ev_tf {E : Tp K mg w T base} {L : List Deed} (h : Ev T (yTf E P) te σ H L) : Ev T (yTr E P) te σ H (ctree L) := h.imp fun H1 v r ⟨av, h⟩ => by
  obtain ⟨q, dx, pa, bo, be, bms, e, ho, hp, _⟩ := h.ex
  exact ⟨q, dx, pa, bo, be, e, ho, hp⟩
/-- self.below[sign] -/
theorem ev_bel {E : Tp K mg w T base} {L : List Deed} {s : List Int} (h : Ev T (yTf E P) te σ H L) (hs : Ev T (yk K) tb σ H s) (o : IsBlock L s ∨ s ∈ keysC (ctree L)) : Ev T (ybl K) (tOp (rSub K P w) (tFld K te "below") tb) σ H (below (ctree L) s true, below (ctree L) s false) := fun H1 r1 Q q =>
  h H1 r1 _ fun v H2 r2 ⟨av, t⟩ => by
    obtain ⟨p, dx, pa, bo, be, bms, e, ho, hp, hb, hl, _⟩ := t.ex
    refine ⟨p, E.C_SignTrees, dx, _, .ref be, e, ho, E.c_SignTrees, E.n_SignTrees_below, ft_bel, ?_⟩
    refine hs H2 (r1.trans r2) _ fun u H3 r3 yu => ?_
    obtain ⟨a, kvs, ea, d, l⟩ := Mono.mono (T := T) r3 hb
    obtain ⟨z, h1, h2⟩ := (lu_val l (tI s)).1 _ (hl s o)
    exact .inr (.inr (.inl ⟨a, kvs, tI s, z, ea, d, keyV_of yu (keyI _), h1, q z H3 (r2.trans r3) h2⟩))
/-- the lists themselves -/
theorem bel_at {E : Tp K mg w T base} {L : List Deed} {s : List Int} {v : V} (y : yTf E P H v L) (o : IsBlock L s ∨ s ∈ keysC (ctree L)) : ∃ v1 v2, yL (yk K) H v1 (below (ctree L) s true) ∧ yL (yk K) H v2 (below (ctree L) s false) ∧
    ∀ (H1 : Hp) (σ : L2.St) (te tb : TE), Rp T H H1 → Ev T yV te σ H1 v → Ev T (yk K) tb σ H1 s → Ev T (yP K yV yV) (tOp (rSub K P w) (tFld K te "below") tb) σ H1 (v1, v2) := by
  obtain ⟨av, t⟩ := y
  obtain ⟨p, dx, pa, bo, be, bms, e, ho, hp, hb, hl, _⟩ := t.ex
  subst e
  obtain ⟨a, kvs, ea, d, l⟩ := hb
  obtain ⟨z, h1, c, z1, z2, ez, sz, l1, l2⟩ := (lu_val l (tI s)).1 _ (hl s o)
  cases ea
  refine ⟨z1, z2, l1, l2, fun H1 σ te tb r h hs H2 r2 Q q => ?_⟩
  refine h H2 r2 _ fun u H3 r3 eu => ?_
  obtain rfl : u = V.ref p := eu
  have r03 := r.trans (r2.trans r3)
  refine ⟨p, E.C_SignTrees, dx, _, .ref be, rfl, r03.ins ho, E.c_SignTrees, E.n_SignTrees_below, ft_bel, ?_⟩
  refine hs H3 (r2.trans r3) _ fun u H4 r4 yu => ?_
  exact .inr (.inr (.inl ⟨be, kvs, tI s, z, rfl, d.rp (r03.trans r4), keyV_of yu (keyI _), h1, q z H4 (r3.trans r4) ⟨c, z1, z2, ez, (r03.trans r4).tup sz, rfl, rfl⟩⟩))
abbrev yst (K : Fg) : Hp → V → List Int × Bool → Prop := yP K (yk K) yB
theorem Nw.ne2 {H H1 : Hp} {a b : Addr} {o : HO} (n : Nw H1 b) (h : H1 a = some o) (t : ∀ ps, o ≠ .tbl ps) : a ≠ b := n.ne h t
theorem RC.op {L : List Deed} (g : Good L) {b : List Int} (hb : IsBlock L b) {s : List Int} {st : List (List Int × Bool)} {out : List (List Int)} {m : Nat} (h : RC (tree L b) b ((s, true) :: st) out m) :
    ∃ m2, m = m2 + 1 ∧ (IsBlock L s ∨ s ∈ keysC (ctree L)) ∧ RC (tree L b) b ((below (ctree L) s true).map (·, true) ++ (s, false) :: ((below (ctree L) s false).map (·, true) ++ st)) out m2 := by
  cases h with
  | @start n h hn =>
    refine ⟨n + 1, rfl, .inl hb, ?_⟩
    rw [below_block g (block_len hb), below_block g (block_len hb), no_left g, List.append_nil]
    exact .blk h hn
  | run h hn hk =>
    have hs := hk _ List.mem_cons_self
    cases h with
    | @op _ _ _ _ n h =>
      refine ⟨n, rfl, .inr (mem_ctree.mpr ⟨b, hs⟩), ?_⟩
      rw [below_sign g (key_len hs) hs, below_sign g (key_len hs) hs]
      refine .run h (by omega) fun e he => ?_
      rcases List.mem_append.mp he with he | he
      · exact mem_kT he
      · rcases List.mem_cons.mp he with z | he
        · rw [z]; exact hs
        · rcases List.mem_append.mp he with he | he
          · exact mem_kT he
          · exact hk e (List.mem_cons_of_mem _ he)
theorem RC.out {L : List Deed} (g : Good L) {b : List Int} (hb : IsBlock L b) {s : List Int} {st : List (List Int × Bool)} {out : List (List Int)} {m : Nat} (h : RC (tree L b) b ((s, false) :: st) out m) :
    ∃ m2, m = m2 + 1 ∧ ((lu (ctree L) s = none ∧ RC (tree L b) b st out m2) ∨ ((∃ p, lu (ctree L) s = some p) ∧ RC (tree L b) b st (out ++ [s]) m2)) := by
  cases h with
  | @blk n h hn => exact ⟨n, rfl, .inl ⟨luC_none (block_len hb), .run h hn fun e he => mem_kT he⟩⟩
  | run h hn hk =>
    have hs := hk _ List.mem_cons_self
    cases h with
    | @out _ _ _ _ n h => exact ⟨n, rfl, .inr ⟨lu_some (t := ctree L) (mem_ctree.mpr ⟨b, hs⟩), .run h (by omega) fun e he => hk e (List.mem_cons_of_mem _ he)⟩⟩
theorem RC.small {t : Tr} {b : List Int} {st : List (List Int × Bool)} {out : List (List Int)} {m : Nat} (B : TB t) (h : RC t b st out m) : st.length ≤ 2 * t.length + 2 ∧ out.length ≤ t.length := by
  cases h with
  | start h hn => exact ⟨by show 1 ≤ _; omega, Nat.zero_le _⟩
  | blk h hn =>
    have z := h.len
    exact ⟨by rw [List.length_cons]; omega, Nat.zero_le _⟩
  | run h hn hk =>
    have z := h.len
    rw [row_len B] at z
    exact ⟨by omega, z.2⟩
/-- the two lists -/
structure SD (T : List (Addr × Str)) (K : Fg) (H0 H : Hp) (fa ta : Addr) (out : List (List Int)) (stk : List (List Int × Bool)) : Prop where
  rp : Rp T H0 H
  fo : ∃ vs, H fa = some (.lst vs) ∧ Paired (yk K H) vs out
  td : ∃ ws, H ta = some (.lst ws) ∧ Paired (yst K H) ws stk
theorem SD.more {H0 : Hp} {fa ta : Addr} {out : List (List Int)} {stk : List (List Int × Bool)} (x : SD T K H0 H fa ta out stk) (r : Rp T H H') : SD T K H0 H' fa ta out stk := by
  obtain ⟨vs, h1, p1⟩ := x.fo
  obtain ⟨ws, h2, p2⟩ := x.td
  exact ⟨x.rp.trans r, ⟨vs, r.lst h1, paired_mono r p1⟩, ws, r.lst h2, paired_mono r p2⟩
theorem SD.set {H0 : Hp} {fa ta : Addr} {out : List (List Int)} {stk stk' : List (List Int × Bool)} (n : fa ≠ ta) (nt : Nw H0 ta) (x : SD T K H0 H fa ta out stk) {ws' : List V} (p : Paired (yst K H) ws' stk') : SD T K H0 (upd H ta (.lst ws')) fa ta out stk' := by
  obtain ⟨vs, h1, p1⟩ := x.fo
  obtain ⟨ws, h2, p2⟩ := x.td
  have tk : Tk H (upd H ta (.lst ws')) := Tk.updL h2
  exact ⟨x.rp.chgLN nt h2, ⟨vs, by rw [upd_ne n]; exact h1, paired_imm tk p1⟩, ws', upd_same, paired_imm tk p⟩
theorem SD.setF {H0 : Hp} {fa ta : Addr} {out out' : List (List Int)} {stk : List (List Int × Bool)} (n : fa ≠ ta) (nf : Nw H0 fa) (x : SD T K H0 H fa ta out stk) {vs' : List V} (p : Paired (yk K H) vs' out') : SD T K H0 (upd H fa (.lst vs')) fa ta out' stk := by
  obtain ⟨vs, h1, p1⟩ := x.fo
  obtain ⟨ws, h2, p2⟩ := x.td
  have tk : Tk H (upd H fa (.lst vs')) := Tk.updL h1
  exact ⟨x.rp.chgLN nf h1, ⟨vs', upd_same, paired_imm tk p⟩, ws, by rw [upd_ne (Ne.symm n)]; exact h2, paired_imm tk p2⟩
/-- todo.extend([(child, True) for child in xs[::-1]]) -/
theorem sd_ext {H0 : Hp} {fa ta : Addr} {out : List (List Int)} {stk : List (List Int × Bool)} {En : Ends} {s0 s1 a b c d : Option V} {j : Nat} {xv : V} {ks : List (List Int)} (n : fa ≠ ta) (nt : Nw H0 ta) (x : SD T K H0 H fa ta out stk)
    (hv : ([s0, s1, some (.ref fa), some (.ref ta), a, b, c, d, none] : L2.St)[j]? = some (some xv)) (hx : yL (yk K) H xv ks) (hl : stk.length + ks.length ≤ sizeLine) (k : ∀ H', Tk H H' → SD T K H0 H' fa ta out (stk ++ ks.reverse.map (·, true)) → En.nx [s0, s1, some (.ref fa), some (.ref ta), a, b, c, d, none] H') :
    tDrop (tBM K "list" rExtend (tVar 3) (tCons (tLc (iList K (tRevL K (tVar j))) (gName 8) tYes (tTup (tCons (tVar 8) (tCons (tC (.bl true)) tNil))) [8]) tNil)) En [s0, s1, some (.ref fa), some (.ref ta), a, b, c, d, none] H := by
  obtain ⟨ws, h2, p2⟩ := x.td
  have hks : ks.length ≤ sizeLine := Nat.le_trans (Nat.le_add_left _ _) hl
  refine s_extend (T := T) (Y := yst K) (bs := ks.reverse.map (·, true)) (ev_var (i := 3) (b := V.ref ta) rfl rfl) (ev_lm (T := T) (Y := yk K) (Z := yst K) (bs := ks.reverse) (fun c => (c, true)) (evi_list (ev_revL (ev_var hv hx))) (fun q hq u H1 r1 yu => ev_pair (ev_var (i := 8) rfl yu) ev_bl) (fun _ => rfl) (by rw [List.length_reverse]; exact hks)) h2 ?_ fun vs H1 r1 p1 => ?_
  · rw [p2.length, List.length_map, List.length_reverse]
    exact hl
  · exact k _ (r1.tk.trans (Tk.updL (r1.lst h2))) ((x.more r1).set n nt (paired_app (paired_mono r1 p2) p1))
theorem sc_SignTrees_row_under : FnScope ["self", "node", "found", "todo", "sign", "is_whole_tree", "left", "right", "child"] ["self", "node"] (defScope s_SignTrees_row_under) := ⟨rfl, rfl, rfl, by decide +kernel, rfl, by decide +kernel, by decide +kernel⟩
theorem bd_SignTrees_row_under (E : Tp K mg w T base) : Binds K E.d_SignTrees_row_under ["self", "node"] [] := E.F_SignTrees_row_under.bindsN fun _ _ _ _ _ _ us hl => match us, hl with | [_, _], _ => rfl
def sp_row_under (E : Tp K mg w T base) (P : Program) : Sp := PSp T (a2 (yTf E P) (yk K)) (fun p => Good p.1 ∧ IsBlock p.1 p.2 ∧ (ctree p.1).length ≤ 3000) (yL (yk K)) fun p => line p.1 p.2
theorem ok_SignTrees_row_under (E : Tp K mg w T base) : FnOk P w K mg base CX0 1 E.f_SignTrees_row_under E.d_SignTrees_row_under ["self", "node"] (sp_row_under E P) :=
  ok_rets E.F_SignTrees_row_under sc_SignTrees_row_under (fun _ _ _ h => len2 h) fun cdv Ar outer s H Ex hr => ⟨_, PSs.nox (pss_cons (ps_set (i := 2) sc_SignTrees_row_under.nd rfl (.inl rfl) (pe_lst pa_nil)) (pss_cons (ps_set (i := 3) sc_SignTrees_row_under.nd rfl (.inl rfl) (pe_lst (pa_cons (pe_tup (pa_cons (pv 1) (pa_cons pe_bl pa_nil))) pa_nil))) (pss_cons (ps_while PassesOwn.never (pt_truth (pv 3) (fun _ => by rfl)) (pss_cons (ps_asg (pe_bm0 PySem.F.plainAttrs_list PySem.F.slot_list_pop PySem.F.type_list_pop mt_pop (pv 3)) (pg_tup rfl (pgs_cons (pg_name (i := 4) sc_SignTrees_row_under.nd rfl (.inl rfl)) (pgs_cons (pg_name (i := 5) sc_SignTrees_row_under.nd rfl (.inl rfl)) pgs_nil)))) (pss_one (ps_if (pt_val (pv 5)) (pss_cons (ps_asg (pe_ix (ix_any (hu9 hr)) (pe_fld (pv 0) (by rfl)) (pv 4) (fun _ _ => by rfl)) (pg_tup rfl (pgs_cons (pg_name (i := 6) sc_SignTrees_row_under.nd rfl (.inl rfl)) (pgs_cons (pg_name (i := 7) sc_SignTrees_row_under.nd rfl (.inl rfl)) pgs_nil)))) (pss_cons (ps_expr (pe_bm PySem.F.plainAttrs_list PySem.F.slot_list_extend PySem.F.type_list_extend mt_extend (pv 3) (pa_cons (pe_lc (own := [("child", 8)]) (g := gName 8) (tt := tYes) rfl sc_SignTrees_row_under.nd (pi_list (pe_revL (pv 7))) (blkOk_by (own := [("child", 8)]) (N := ["self", "node", "found", "todo", "sign", "is_whole_tree", "left", "right", "child"]) (sc := defScope s_SignTrees_row_under) (by decide +kernel)) (fun _ _ _ _ _ => (pg_name (i := 8) sc_SignTrees_row_under.nd rfl (.inl rfl))) (fun _ _ _ _ _ => pts_nil) (fun _ _ _ _ _ => (pe_tup (pa_cons (pv 8) (pa_cons pe_bl pa_nil))))) pa_nil))) (pss_cons (ps_expr (pe_bm PySem.F.plainAttrs_list PySem.F.slot_list_append PySem.F.type_list_append mt_append (pv 3) (pa_cons (pe_tup (pa_cons (pv 4) (pa_cons pe_bl pa_nil))) pa_nil))) (pss_one (ps_expr (pe_bm PySem.F.plainAttrs_list PySem.F.slot_list_extend PySem.F.type_list_extend mt_extend (pv 3) (pa_cons (pe_lc (own := [("child", 8)]) (g := gName 8) (tt := tYes) rfl sc_SignTrees_row_under.nd (pi_list (pe_revL (pv 6))) (blkOk_by (own := [("child", 8)]) (N := ["self", "node", "found", "todo", "sign", "is_whole_tree", "left", "right", "child"]) (sc := defScope s_SignTrees_row_under) (by decide +kernel)) (fun _ _ _ _ _ => (pg_name (i := 8) sc_SignTrees_row_under.nd rfl (.inl rfl))) (fun _ _ _ _ _ => pts_nil) (fun _ _ _ _ _ => (pe_tup (pa_cons (pv 8) (pa_cons pe_bl pa_nil))))) pa_nil))))))) (pss_one (ps_if (pt_cmpR (op_inU (hu9 hr)) (pv 4) (pe_fld (pv 0) (by rfl)) (by rfl)) (pss_one (ps_expr (pe_bm PySem.F.plainAttrs_list PySem.F.slot_list_append PySem.F.type_list_append mt_append (pv 2) (pa_cons (pv 4) pa_nil)))) pss_nil)))))) (pss_one (ps_ret (pv 2)))))), fun vs p ⟨v, u, e, y1, y2⟩ ⟨g, hb, hlt⟩ => by
    subst e
    obtain ⟨L, b⟩ := p
    have y1 : yTf E P H v L := y1
    have y2 : yk K H u b := y2
    have g : Good L := g
    have hb : IsBlock L b := hb
    have hlt : (ctree L).length ≤ 3000 := hlt
    show Rets T (yL (yk K)) _ [some v, some u, none, none, none, none, none, none, none] H (line L b)
    intro H0 r0 En k
    have y1 := Mono.mono (T := T) r0 y1
    have y2 := Mono.mono (T := T) (Y := yk K) r0 y2
    clear r0
    have B := g.tb b
    have bl2 := block_len hb
    have htl : (tree L b).length ≤ 3000 := Nat.le_trans (tree_le g b) hlt
    refine q_set (T := T) (Y := yLN H0 (yk K)) (a := []) (ev_lstN eds_nil (Nat.zero_le _)) fun f H1 r1 yf => ?_
    obtain ⟨fa, vs0, e, hf, nf, l0⟩ := yf
    subst e
    cases l0
    refine q_set (T := T) (Y := yLN H1 (yst K)) (a := [(b, true)]) (ev_lstN (eds_cons (ev_pair (ev_var (i := 1) rfl (Mono.mono (T := T) (Y := yk K) r1 y2)) ev_bl) eds_nil) (by show 1 ≤ sizeLine; decide)) fun td H2 r2 yt => ?_
    obtain ⟨ta, ws0, e, ht, nt, lt0⟩ := yt
    subst e
    have nft : fa ≠ ta := nt.ne hf (fun _ z => by cases z)
    have nt0 := r1.nw nt
    show tSeq (tWhile _ _) _ _ ([some v, some u, some (.ref fa), some (.ref ta), none, none, none, none, none] : L2.St) H2
    obtain ⟨n0, hn0, runs0, _⟩ := row_runs B
    refine ⟨fun m σ' H' => Rp T H0 H' ∧ (∃ a b c d, σ' = [some v, some u, some (.ref fa), some (.ref ta), a, b, c, d, none]) ∧ ∃ st out vs ws, RC (tree L b) b st out m ∧ H' fa = some (.lst vs) ∧ Paired (yk K H') vs out ∧ H' ta = some (.lst ws) ∧ Paired (yst K H') ws st.reverse, ⟨n0 + 2, r1.trans r2, ⟨none, none, none, none, rfl⟩, [(b, true)], [], [], ws0, .start runs0 hn0, r2.lst hf, .nil, ht, lt0⟩, ?_⟩
    rintro m σ' H' ⟨rH, ⟨s4, s5, s6, s7, eσ⟩, st, out, vs, ws, rc, hfv, pf, htv, pt⟩
    subst eσ
    refine ⟨.ref ta, rfl, !ws.isEmpty, .inl ⟨ws, SqL.of htv, rfl⟩, ?_⟩
    cases st with
    | nil =>
      cases pt
      rw [if_neg (show ¬ ((!([] : List V).isEmpty) = true) from by intro z; cases z)]
      have eo : out = line L b := by
        cases rc with
        | run h _ _ => cases h; rfl
      subst eo
      exact ⟨.ref fa, rfl, k (.ref fa) H' rH ⟨fa, vs, rfl, hfv, pf⟩⟩
    | cons e st =>
      have sd0 : SD T K H0 H' fa ta out (e :: st).reverse := ⟨rH, ⟨vs, hfv, pf⟩, ws, htv, pt⟩
      have sml := rc.small B
      rw [List.reverse_cons] at pt
      obtain ⟨ws', y, ew, pt', yy⟩ := paired_unsnoc pt
      subst ew
      rw [if_pos (show ((!(ws' ++ [y]).isEmpty) = true) from by cases ws' <;> rfl)]
      refine ⟨fun σ3 H3 => ∃ m2, m = m2 + 1 ∧ Rp T H0 H3 ∧ (∃ a b c d, σ3 = [some v, some u, some (.ref fa), some (.ref ta), a, b, c, d, none]) ∧ ∃ st out vs ws, RC (tree L b) b st out m2 ∧ H3 fa = some (.lst vs) ∧ Paired (yk K H3) vs out ∧ H3 ta = some (.lst ws) ∧ Paired (yst K H3) ws st.reverse, fun σ3 H3 ⟨m2, em, w⟩ => ⟨m2, by omega, w⟩, ?_⟩
      refine ⟨.ref ta, rfl, .inl ⟨rfl, _, SqL.of htv⟩, ta, ws' ++ [y], y, rfl, rfl, htv, by rw [List.length_append]; simp, ?_⟩
      rw [List.dropLast_concat]
      have sd1 : SD T K H0 (upd H' ta (.lst ws')) fa ta out st.reverse := sd0.set nft nt0 pt'
      have yy1 : yst K (upd H' ta (.lst ws')) y e := Imm.imm (Tk.updL htv) yy
      generalize upd H' ta (.lst ws') = HA at sd1 yy1
      clear sd0 yy htv hfv pf pt pt' rH
      obtain ⟨s, fl⟩ := e
      obtain ⟨ya, x1, x2, ey, ys, k1, k2⟩ := yy1
      subst ey
      obtain rfl : x2 = V.bl fl := k2
      have k1 : yk K HA x1 s := k1
      refine ⟨ya, _, rfl, ys, rfl, _, _, rfl, _, _, rfl, rfl, ?_⟩
      have yA : ∀ H3, Rp T H0 H3 → yTf E P H3 v L := fun H3 r => Mono.mono r y1
      cases fl with
      | true =>
        obtain ⟨m2, em, ob, rc2⟩ := rc.op g hb
        have sml2 := rc2.small B
        refine ⟨.bl true, rfl, true, rfl, ?_⟩
        refine iteT ?_
        obtain ⟨v1, v2, l1, l2, hbel⟩ := bel_at y1 ob
        refine q_un2 (T := T) (K := K) (Y := yV) (Z := yV) (p := (v1, v2)) (σ := [some v, some u, some (.ref fa), some (.ref ta), some x1, some (.bl true), s6, s7, none]) (hbel HA _ _ _ sd1.rp (ev_var (i := 0) rfl rfl) (ev_var (i := 4) rfl k1)) fun v1' v2' H3 r3 e1 e2 => ?_
        obtain rfl : v1' = v1 := e1
        obtain rfl : v2' = v2 := e2
        have sd3 := sd1.more r3
        rw [List.length_append, List.length_cons, List.length_append, List.length_map, List.length_map] at sml2
        have big : ∀ {j : Nat}, j ≤ 7000 → j ≤ sizeLine := fun h => Nat.le_trans h (by decide)
        refine sd_ext (T := T) (K := K) (j := 7) (a := some x1) (b := some (.bl true)) (c := some v1') (d := some v2') (ks := below (ctree L) s false) nft nt0 sd3 rfl (Mono.mono (T := T) sd3.rp l2) (big (by rw [List.length_reverse]; omega)) fun H4 tk4 sd4 => ?_
        obtain ⟨ws4, g4, p4⟩ := sd4.td
        have r04 := sd4.rp
        have k4 : yk K H4 x1 s := Imm.imm (Y := yk K) (r3.tk.trans tk4) k1
        refine s_append (T := T) (Y := yst K) (b := (s, false)) (l := ta) (σ := [some v, some u, some (.ref fa), some (.ref ta), some x1, some (.bl true), some v1', some v2', none]) (ev_var (i := 3) rfl rfl) (ev_pair (ev_var (i := 4) rfl k4) ev_bl) g4 ?_ fun v5 H5 r5 y5 => ?_
        · rw [p4.length, List.length_append, List.length_reverse, List.length_map, List.length_reverse]
          exact small (by omega)
        have sd5 : SD T K H0 (upd H5 ta (.lst (ws4 ++ [v5]))) fa ta out ((st.reverse ++ (below (ctree L) s false).reverse.map (·, true)) ++ [(s, false)]) := (sd4.more r5).set nft nt0 (paired_snocG (paired_mono r5 p4) y5)
        generalize upd H5 ta (.lst (ws4 ++ [v5])) = H6 at sd5
        have l1' : yL (yk K) H6 v1' (below (ctree L) s true) := Mono.mono (T := T) sd5.rp l1
        refine sd_ext (T := T) (K := K) (j := 6) (a := some x1) (b := some (.bl true)) (c := some v1') (d := some v2') (ks := below (ctree L) s true) nft nt0 sd5 rfl l1' (big (by simp only [List.length_append, List.length_reverse, List.length_map, List.length_singleton]; omega)) fun H7 _ sd7 => ?_
        obtain ⟨vs7, f7, q7⟩ := sd7.fo
        obtain ⟨ws7, t7, p7⟩ := sd7.td
        refine ⟨m2, em, sd7.rp, ⟨_, _, _, _, rfl⟩, _, out, vs7, ws7, rc2, f7, q7, t7, ?_⟩
        have er : ((below (ctree L) s true).map (·, true) ++ (s, false) :: ((below (ctree L) s false).map (·, true) ++ st)).reverse = ((st.reverse ++ (below (ctree L) s false).reverse.map (·, true)) ++ [(s, false)]) ++ (below (ctree L) s true).reverse.map (·, true) := by
          simp only [List.reverse_append, List.reverse_cons, List.append_assoc, ← List.map_reverse]
        rw [er]
        exact p7
      | false =>
        obtain ⟨m2, em, rc2⟩ := rc.out g hb
        refine ⟨.bl false, rfl, false, rfl, ?_⟩
        refine iteF ?_
        have evs : Ev T (yk K) (tVar 4) [some v, some u, some (.ref fa), some (.ref ta), some x1, some (.bl false), s6, s7, none] HA s := ev_var (i := 4) rfl k1
        refine q_if (T := T) (et_test (ev_inK (K := K) (P := P) (w := w) (n := false) (ev_kD evs) (ev_par (ev_tf (E := E) (ev_var (i := 0) rfl (yA HA sd1.rp)))) (keyI _))) (fun hc H3 r3 => ?_) (fun hc H3 r3 => ?_)
        · rw [lu_ptab] at hc
          have sd3 := sd1.more r3
          obtain ⟨vs3, f3, q3⟩ := sd3.fo
          refine s_append (T := T) (Y := yk K) (b := s) (l := fa) (ev_var (i := 2) rfl rfl) (ev_var (i := 4) rfl (Mono.mono (T := T) (Y := yk K) r3 k1)) f3 ?_ fun v5 H5 r5 y5 => ?_
          · rw [q3.length]
            exact small (by omega)
          have sd5 : SD T K H0 (upd H5 fa (.lst (vs3 ++ [v5]))) fa ta (out ++ [s]) st.reverse := (sd3.more r5).setF nft nf (paired_snocG (paired_mono r5 q3) y5)
          obtain ⟨vs7, f7, q7⟩ := sd5.fo
          obtain ⟨ws7, t7, p7⟩ := sd5.td
          rcases rc2 with ⟨z, _⟩ | ⟨_, rc3⟩
          · rw [z] at hc
            cases hc
          · exact ⟨m2, em, sd5.rp, ⟨_, _, _, _, rfl⟩, st, _, vs7, ws7, rc3, f7, q7, t7, p7⟩
        · rw [lu_ptab] at hc
          have sd3 := sd1.more r3
          obtain ⟨vs7, f7, q7⟩ := sd3.fo
          obtain ⟨ws7, t7, p7⟩ := sd3.td
          rcases rc2 with ⟨_, rc3⟩ | ⟨⟨p, z⟩, _⟩
          · exact ⟨m2, em, sd3.rp, ⟨_, _, _, _, rfl⟩, st, _, vs7, ws7, rc3, f7, q7, t7, p7⟩
          · rw [z] at hc
            cases hc⟩
end
end K20
namespace K20
open PySem PySem.Spec PyProof.Rows L2
theorem ctree_small {L : List Deed} (g : Good L) : (ctree L).length ≤ 3 * L.length := by
  revert g
  refine snoc_ind (m := fun L => Good L → (ctree L).length ≤ 3 * L.length) (fun _ => Nat.le_refl _) (fun M x ih g => ?_) L
  have ih := ih g.init
  have f := g.last
  rw [ctree_snoc, List.length_append]
  unfold stepC
  cases ha : x.act with
  | bk c =>
    show (ctree M).length ≤ _
    omega
  | wr b l r m =>
    rw [ha] at f
    have m3 := f.2.2.2
    show (ctree M ++ hangC x (placeC (ctree M) b l r) m).length ≤ _
    rw [List.length_append]
    unfold hangC
    rw [List.length_map, List.length_range, List.length_singleton]
    omega
theorem ctree_3000 {L : List Deed} (g : Good L) (h : L.length ≤ 1000) : (ctree L).length ≤ 3000 := by
  have := ctree_small g
  omega
theorem no_settle (L : List Deed) : L.filter (isW "settle") = [] := by
  rw [List.filter_eq_nil_iff]
  intro x _ h
  unfold isW at h
  cases ha : x.act with
  | bk c =>
    rw [ha] at h
    exact absurd (of_decide_eq_true h) (by decide +kernel : ¬ (("block" : Str) = "settle"))
  | wr b l r m =>
    rw [ha] at h
    exact absurd (of_decide_eq_true h) (by decide +kernel : ¬ (("write" : Str) = "settle"))
section
variable {P : Program} {w : World} {K : Fg} {mg : Str → Option Value} {base : Heap} {T : List (Addr × Str)} {H H' H1 : Hp} {σ : L2.St} {te ta tb t1 t2 t3 ts : TE}
/-- a Deeds object, what it keeps -/
structure Liv (E : Tp K mg w T base) (P : Program) (H : Hp) (p : Addr) (L : List Deed) (k m av : Addr) (wd tr : Option V) : Prop where
  ob : DObj E P H p L k m
  kp : KeptOk E P av H k L wd tr
  gd : Good L
  len : L.length ≤ 1000
  av : ∃ o, H av = some o ∧ (∀ ps, o ≠ .tbl ps) ∧ ∀ l, o ≠ .dK l
theorem Liv.rp {E : Tp K mg w T base} {p : Addr} {L : List Deed} {k m av : Addr} {wd tr : Option V} (r : Rp T H H') (x : Liv E P H p L k m av wd tr) : Liv E P H' p L k m av wd tr := by
  obtain ⟨o, h1, h2, h3⟩ := x.av
  exact ⟨x.ob.rp r, x.kp.rp r, x.gd, x.len, o, r.keep _ _ h1 h2, h2, h3⟩
theorem Liv.rk {E : Tp K mg w T base} {p : Addr} {L : List Deed} {k m av : Addr} {wd tr wd' tr' : Option V} (x : Liv E P H p L k m av wd tr) (r : Rk T k H H') (h : KeptOk E P av H' k L wd' tr') : Liv E P H' p L k m av wd' tr' := by
  obtain ⟨l, hl⟩ := x.kp.dk
  obtain ⟨o, h1, h2, h3⟩ := x.av
  exact ⟨x.ob.rw_ (r.rw_ hl), h, x.gd, x.len, o, r.rw_ hl _ _ h1 h2 h3, h2, h3⟩
theorem sc_trees_of : FnScope ["d"] ["d"] (defScope s_trees_of) := ⟨rfl, rfl, rfl, by decide +kernel, rfl, by decide +kernel, by decide +kernel⟩
theorem bd_trees_of (E : Tp K mg w T base) : Binds K E.d_trees_of ["d"] [] := E.F_trees_of.bindsN fun _ _ _ _ _ _ us hl => match us, hl with | [_], _ => rfl
def sp_trees_of (E : Tp K mg w T base) (P : Program) : Sp := fun vs H Q _ => ∃ (p k m av : Addr) (L : List Deed) (wd tr : Option V), vs = [.ref p] ∧ Liv E P H p L k m av wd tr ∧
  ∀ v H' wd', Rk T k H H' → Liv E P H' p L k m av wd' (some v) → yTf E P H' v L → Q v H'
theorem ok_trees_of (E : Tp K mg w T base) : FnOk P w K mg base CX0 6 E.f_trees_of E.d_trees_of ["d"] (sp_trees_of E P) := by
  refine E.F_trees_of.ok sc_trees_of (fun vs H Q Ex h => ?_) (fun cdv Ar outer s H vs Q Ex hr h => ⟨_, PSs.nox (pss_cons (ps_if (pt_cmpR (op_notinU (hu9 hr)) pe_str (pe_fld (pv 0) (by rfl)) (by rfl)) (pss_one (ps_asg (pe_make E.mk_SignTrees (ok_SignTrees___init__ (T := T) E) (hr.mono (by decide)) (by rfl) E.g_SignTrees (bd_SignTrees___init__ E) .nil pass0 (pa_cons (pv 0) pa_nil)) (pg_sub (pe_fld (pv 0) (by rfl)) pe_str (set_dict (hu1 hr))))) pss_nil) (pss_one (ps_ret (pe_ix (ix_any (hu9 hr)) (pe_fld (pv 0) (by rfl)) pe_str (fun _ _ => by rfl))))), ?_⟩)
  · obtain ⟨p, k, m, av, L, wd, tr, rfl, _⟩ := h
    rfl
  obtain ⟨p, k, m, av, L, wd, tr, rfl, x, kk⟩ := h
  have fin : ∀ (En : Ends) (H1 : Hp) (v : V) (wd' : Option V), (∀ v H' wd', Rk T k H H' → Liv E P H' p L k m av wd' (some v) → yTf E P H' v L → En.rt v H') → Rk T k H H1 → Liv E P H1 p L k m av wd' (some v) →
      tRet (tOp (rSub K P w) (tFld K (tVar 0) "kept") (tC (.str "trees"))) En (start ["d"] [.ref p]) H1 := fun En H1 v wd' kf rk x1 => by
    obtain ⟨kvs, hk1, _, _, ht, _, h4⟩ := x1.kp.ex
    obtain ⟨dx, b, t, u, ms, vs, h1, _⟩ := x1.ob.ex
    refine ⟨.ref p, rfl, p, E.C_Deeds, dx, _, .ref k, rfl, h1, E.c_Deeds, E.n_Deeds_kept, fl_kept, ?_⟩
    exact raw_suS (.inl hk1) ht (kf _ _ wd' rk x1 ⟨av, h4 v rfl⟩)
  obtain ⟨dx, b, t, u, ms, vs, h1, h2, h3, h4, h5, h6⟩ := x.ob.ex
  obtain ⟨kvs, hk1, hkl, ew, et, hkw, hkt⟩ := x.kp.ex
  refine ⟨.ref p, rfl, p, E.C_Deeds, dx, _, .ref k, rfl, h1, E.c_Deeds, E.n_Deeds_kept, fl_kept, ?_⟩
  refine raw_inS (.inl hk1) ⟨_, rfl, ?_⟩
  have et' : valV kvs (.inr "trees") = tr := et
  rw [et']
  cases tr with
  | some v =>
    refine iteF ?_
    exact fin _ H v wd kk (Rk.refl H) x
  | none =>
    refine iteT ?_
    refine ⟨.ref p, rfl, fun q dq hq hdq hne => ?_⟩
    have r1 : Rp T H (upd H dq (.own q)) := Rp.new hdq
    have hq1 : upd H dq (.own q) q = none := by rw [upd_ne (Ne.symm hne)]; exact hq
    have r2 : Rp T H (upd (upd H dq (.own q)) q (.ins E.C_SignTrees dq [])) := r1.trans (Rp.new hq1)
    obtain ⟨o, hav, nav, _⟩ := x.av
    refine ⟨H, q, dq, p, k, m, av, L, wd, rfl, r2, Nw.of hq, upd_same, x.ob, x.kp, x.gd, x.len, ⟨o, hav, nav⟩, fun HE wv rkE kE tE => ⟨rfl, ?_⟩⟩
    have xE := x.rk rkE kE
    obtain ⟨dx', b', t', u', ms', vs', g1, _⟩ := xE.ob.ex
    obtain ⟨kvs', q1, q2, _⟩ := kE.ex
    refine ⟨.ref p, rfl, p, E.C_Deeds, dx', _, .ref k, rfl, g1, E.c_Deeds, E.n_Deeds_kept, fl_kept, ?_⟩
    refine ⟨k, _, rfl, .inl ⟨kvs', kT, q1, rfl, ?_, rfl⟩, ?_⟩
    · exact Nat.lt_of_le_of_lt q2 (Nat.lt_of_le_of_lt (Nat.add_le_add (Bool.toNat_le _) (Bool.toNat_le _)) (by decide))
    · have rkF : Rk T k H (upd HE k (.dK (putK kvs' kT (.ref q)))) := rkE.chg q1
      exact fin _ _ _ _ kk rkF (x.rk rkF (KeptOk.putT q1 kE tE))
theorem sc_row : FnScope ["d", "block"] ["d", "block"] (defScope s_row) := ⟨rfl, rfl, rfl, by decide +kernel, rfl, by decide +kernel, by decide +kernel⟩
theorem bd_row (E : Tp K mg w T base) : Binds K E.d_row ["d", "block"] [] := E.F_row.bindsN fun _ _ _ _ _ _ us hl => match us, hl with | [_, _], _ => rfl
def sp_row (E : Tp K mg w T base) (P : Program) : Sp := fun vs H Q _ => ∃ (p k m av : Addr) (L : List Deed) (wd tr : Option V) (bv : V) (b : List Int), vs = [.ref p, bv] ∧ Liv E P H p L k m av wd tr ∧ yk K H bv b ∧ IsBlock L b ∧
  ∀ v H' wd' tr', Rk T k H H' → Liv E P H' p L k m av wd' tr' → yL (yk K) H' v (line L b) → Q v H'
theorem ok_row (E : Tp K mg w T base) : FnOk P w K mg base CX0 7 E.f_row E.d_row ["d", "block"] (sp_row E P) := by
  refine E.F_row.ok sc_row (fun vs H Q Ex h => ?_) (fun cdv Ar outer s H vs Q Ex hr h => ⟨_, PSs.nox (pss_one (ps_ret (pe_meth (pe_call (ok_trees_of (T := T) E) (hr.mono (by decide)) (by rfl) E.g_trees_of E.F_trees_of.kp (bd_trees_of E) .nil pass0 (pa_cons (pv 0) pa_nil)) E.c_SignTrees E.m_SignTrees_row_under (ok_SignTrees_row_under (T := T) E) (hr.mono (by decide)) (bd_SignTrees_row_under E) .nil pass0 (pa_cons (pv 1) pa_nil)))), ?_⟩)
  · obtain ⟨p, k, m, av, L, wd, tr, bv, b, rfl, _⟩ := h
    rfl
  obtain ⟨p, k, m, av, L, wd, tr, bv, b, rfl, x, yb, hb, kk⟩ := h
  refine ⟨.ref p, rfl, p, k, m, av, L, wd, tr, rfl, x, fun v H1 wd' rk x1 yt => ?_⟩
  obtain ⟨lk, hlk⟩ := x.kp.dk
  have yb1 : yk K H1 bv b := Imm.imm (Y := yk K) (rk.rw_ hlk).tk yb
  obtain ⟨q, dx, fs, e, ho, hl⟩ := isTf (E := E) (T := T) (H := H1) (L := L) (m := "row_under") (by decide +kernel) H1 v (Rp.refl _) yt
  refine ⟨q, dx, fs, e, ho, hl, bv, rfl, (L, b), ⟨v, bv, rfl, yt, yb1⟩, ⟨x.gd, hb, ctree_3000 x.gd x.len⟩, fun u H2 r2 y2 => kk u H2 wd' _ (rk.trans r2.rk) (x1.rp r2) y2⟩
theorem sc_passed : FnScope ["d"] ["d"] (defScope s_passed) := ⟨rfl, rfl, rfl, by decide +kernel, rfl, by decide +kernel, by decide +kernel⟩
theorem bd_passed (E : Tp K mg w T base) : Binds K E.d_passed ["d"] [] := E.F_passed.bindsN fun _ _ _ _ _ _ us hl => match us, hl with | [_], _ => rfl
def sp_passed (E : Tp K mg w T base) (P : Program) : Sp := fun vs H Q _ => ∃ (p k m av : Addr) (L : List Deed) (wd tr : Option V), vs = [.ref p] ∧ Liv E P H p L k m av wd tr ∧
  ∀ v H' wd', Rk T k H H' → Liv E P H' p L k m av wd' tr → yM K P w yV H' v [] → Q v H'
theorem ok_passed (E : Tp K mg w T base) : FnOk P w K mg base CX0 3 E.f_passed E.d_passed ["d"] (sp_passed E P) := by
  refine E.F_passed.ok sc_passed (fun vs H Q Ex h => ?_) (fun cdv Ar outer s H vs Q Ex hr h => ⟨_, PSs.nox (pss_cons (ps_if (pt_cmpR (op_eqK (hu64 hr)) (pe_callB call_lenU (by rfl) E.len (by decide +kernel) (pa_cons (pe_call (ok_named_by (T := T) E) (hr.mono (by decide)) (by rfl) E.g_named_by E.F_named_by.kp (bd_named_by E) .nil pass0 (pa_cons (pv 0) (pa_cons pe_str pa_nil))) pa_nil)) pe_int (nomark _)) (pss_one (ps_ret (pe_knew))) pss_nil) (pss_one ps_never)), ?_⟩)
  · obtain ⟨p, k, m, av, L, wd, tr, rfl, _⟩ := h
    rfl
  obtain ⟨p, k, m, av, L, wd, tr, rfl, x, kk⟩ := h
  refine ⟨.ref p, rfl, p, k, m, av, L, "settle", wd, tr, rfl, x.ob, x.kp, x.len, fun v H1 wv rk _ k1 y1 => ?_⟩
  rw [no_settle] at y1
  obtain ⟨a, vs, e, ha, la⟩ := y1
  cases la
  subst e
  refine .inl ⟨a, [], rfl, .inl (SqL.of ha), ?_⟩
  refine ⟨.num 0, .num 0, .int 0, .int 0, rfl, rfl, true, rfl, ?_⟩
  refine iteT ?_
  intro q H2 hq ⟨o, e⟩ d
  have r2 : Rp T H1 H2 := by rw [e]; exact Rp.new hq
  exact kk _ H2 (some wv) (rk.trans r2.rk) ((x.rk rk k1).rp r2) ⟨q, [], rfl, d, .nil⟩
theorem sc_open_row : FnScope ["d", "block", "gone", "sign"] ["d", "block"] (defScope s_open_row) := ⟨rfl, rfl, rfl, by decide +kernel, rfl, by decide +kernel, by decide +kernel⟩
theorem bd_open_row (E : Tp K mg w T base) : Binds K E.d_open_row ["d", "block"] [] := E.F_open_row.bindsN fun _ _ _ _ _ _ us hl => match us, hl with | [_, _], _ => rfl
def sp_open_row (E : Tp K mg w T base) (P : Program) : Sp := sp_row E P
theorem ok_open_row (E : Tp K mg w T base) : FnOk P w K mg base CX0 8 E.f_open_row E.d_open_row ["d", "block"] (sp_open_row E P) := by
  refine E.F_open_row.ok sc_open_row (fun vs H Q Ex h => ?_) (fun cdv Ar outer s H vs Q Ex hr h => ⟨_, PSs.nox (pss_cons (ps_set (i := 2) sc_open_row.nd rfl (.inr rfl) (pe_call (ok_passed (T := T) E) (hr.mono (by decide)) (by rfl) E.g_passed E.F_passed.kp (bd_passed E) .nil pass0 (pa_cons (pv 0) pa_nil))) (pss_one (ps_ret (pe_lc (own := [("sign", 3)]) (g := gName 3) rfl sc_open_row.nd (pi_list (pe_call (ok_row (T := T) E) (hr.mono (by decide)) (by rfl) E.g_row E.F_row.kp (bd_row E) .nil pass0 (pa_cons (pv 0) (pa_cons (pv 1) pa_nil)))) (blkOk_by (own := [("sign", 3)]) (N := ["d", "block", "gone", "sign"]) (sc := defScope s_open_row) (by decide +kernel)) (fun _ _ _ _ _ => (pg_name (i := 3) sc_open_row.nd rfl (.inl rfl))) (fun _ _ _ _ _ => pts_one (pt_cmpR (op_notinUK K P w (hu9 hr) (by rfl) (by rfl) (by rfl)) (pv 3) (pv 2) (by rfl))) (fun _ _ _ _ _ => (pv 3)))))), ?_⟩)
  · obtain ⟨p, k, m, av, L, wd, tr, bv, b, rfl, _⟩ := h
    rfl
  obtain ⟨p, k, m, av, L, wd, tr, bv, b, rfl, x, yb, hb, kk⟩ := h
  refine ⟨.ref p, rfl, p, k, m, av, L, wd, tr, rfl, x, fun gv H1 wd1 rk1 x1 yg => ?_⟩
  obtain ⟨l0, hl0⟩ := x.kp.dk
  obtain ⟨l1, hl1⟩ := x1.kp.dk
  have yb1 : yk K H1 bv b := Imm.imm (Y := yk K) (rk1.rw_ hl0).tk yb
  refine ⟨.ref p, rfl, bv, rfl, p, k, m, av, L, wd1, tr, bv, b, rfl, x1, yb1, hb, fun rv H2 wd2 tr2 rk2 x2 yr => ?_⟩
  have yg2 : yM K P w yV H2 gv [] := MonoW.mono (rk2.rw_ hl1) yg
  have key : Ev T (yL (yk K)) (tLc (iList K (tC rv)) (gName 3) (tTest (tOp (rInU K P w true) (tVar 3) (tVar 2))) (tVar 3) [3]) [some (.ref p), some bv, some gv, none] H2 (((line L b).filter fun _ => true).map id) :=
    ev_lc (T := T) (Y := yk K) (Z := yk K) (bs := line L b) (fun _ => true) id (evi_list (ev_at yr)) (fun s hs u H3 r3 yu => evT_eq (et_test (ev_inK (K := K) (P := P) (w := w) (n := true) (ms := ([] : List (D × V))) (ev_kD (ev_var (i := 3) rfl yu)) (ev_var (i := 2) rfl (Mono.mono r3 yg2)) (keyI _))) rfl) (fun s hs _ u H3 r3 yu => ev_var (i := 3) rfl yu) (fun _ => rfl) (by
      unfold line
      rw [row_len (x.gd.tb b)]
      exact Nat.le_trans (Nat.le_trans (tree_le x.gd b) (ctree_3000 x.gd x.len)) (by decide))
  rw [List.filter_eq_self.mpr (fun _ _ => rfl), List.map_id] at key
  exact key H2 (Rp.refl _) _ fun v H3 r3 y3 => kk v H3 wd2 tr2 ((rk1.trans rk2).trans r3.rk) (x2.rp r3) y3
end
end K20
namespace K20
open PySem PySem.Spec PyProof.Rows L2
section
variable {P : Program} {w : World} {K : Fg} {mg : Str → Option Value} {base : Heap} {T : List (Addr × Str)} {H H' H1 : Hp} {σ : L2.St} {te ta tb t1 t2 t3 ts : TE}
/-- range(m, n) -/
theorem evi_rng2 {m n : Int} (h1 : Ev T yI ta σ H m) (h2 : Ev T yI tb σ H n) (hm : -(2 ^ 62) ≤ m ∧ m < 2 ^ 62) (hn : -(2 ^ 62) ≤ n ∧ n < 2 ^ 62) : EvI T yI (iRng2 (tCons ta (tCons tb tNil))) σ H ((List.range (n - m).toNat).map fun (i : Nat) => m + (i : Int)) := fun H1 r1 Rk k =>
  h1 H1 r1 _ fun v H2 r2 e1 => h2 H2 (r1.trans r2) _ fun u H3 r3 e2 => by
    obtain rfl : v = V.int m := e1
    obtain rfl : u = V.int n := e2
    refine ⟨m, n, rfl, ⟨hm.1, hm.2, hn.1, hn.2⟩, k _ H3 (r2.trans r3) ?_⟩
    rw [List.length_map, List.length_range]
    refine (walk_range (lo := m) (n := (n - m).toNat)).mono (fun _ _ => trivial) fun i H4 x H5 hi r4 ⟨e1, e2⟩ => ?_
    subst e1
    refine ⟨Rp.refl _, m + (i : Int), ?_, e2⟩
    rw [List.getElem?_map, List.getElem?_range hi]
    rfl
/-- o.get(k): it is there -/
theorem ev_kg {γ : Type} {Z : Hp → V → γ → Prop} [mz : Mono T Z] {ms : List (D × γ)} {k : D} {g : γ} (ha : Ev T (yM K P w Z) ta σ H ms) (hb : Ev T (yD K) tb σ H k) (o : keyOk k = true) (e : lu ms k = some g) : Ev T Z (tKGet1 K P w ta tb) σ H g := fun H1 r1 Q q =>
  ha H1 r1 _ fun x H2 r2 ⟨a, kvs, e1, d, l⟩ => ⟨a, kvs, e1, d, hb H2 (r1.trans r2) _ fun y H3 r3 dk => by
    obtain ⟨v, h1, h2⟩ := (lu_val l k).1 g e
    refine ⟨kvs, k, d.rp r3, keyV_of dk o, ?_⟩
    rw [h1]
    exact q v H3 (r2.trans r3) (mz.mono r3 h2)⟩
theorem sc_are_closed : FnScope ["deeds", "by_id", "deed", "seen", "hand", "number", "other"] ["deeds"] (defScope s_are_closed) := ⟨rfl, rfl, rfl, by decide +kernel, rfl, by decide +kernel, by decide +kernel⟩
theorem bd_are_closed (E : Tp K mg w T base) : Binds K E.d_are_closed ["deeds"] [] := E.F_are_closed.bindsN fun _ _ _ _ _ _ us hl => match us, hl with | [_], _ => rfl
def sp_are_closed (K : Fg) (T : List (Addr × Str)) : Sp := PSp T (a1 (yL (ydd K))) (fun S => ∃ L, S.Perm L ∧ Good L ∧ S.length ≤ 1000) yB fun _ => true
theorem ok_are_closed (E : Tp K mg w T base) : FnOk P w K mg base CX0 2 E.f_are_closed E.d_are_closed ["deeds"] (sp_are_closed K T) :=
  ok_rets E.F_are_closed sc_are_closed (fun _ _ _ h => len1 h) fun cdv Ar outer s H Ex hr => ⟨_, PSs.nox (pss_cons (ps_setKdc (i := 1) (own := [("deed", 2)]) (g := gName 2) (tt := tYes) (hu9 hr) rfl sc_are_closed.nd rfl rfl (sw_trueD rfl rfl rfl (by decide +kernel)) (pi_list (pv 0)) (blkOk_by (own := [("deed", 2)]) (N := ["deeds", "by_id", "deed", "seen", "hand", "number", "other"]) (sc := defScope s_are_closed) (by decide +kernel)) (fun _ _ _ _ _ => (pg_name (i := 2) sc_are_closed.nd rfl (.inl rfl))) (fun _ _ _ _ _ => pts_nil) (fun _ _ _ _ _ => (pe_call (ok_id_of (T := T) E) (hr.mono (by decide)) (by rfl) E.g_id_of E.F_id_of.kp (bd_id_of E) .nil pass0 (pa_cons (pv 2) pa_nil))) (fun _ _ _ _ _ => (pv 2))) (pss_cons (ps_for PassesOwn.never rfl (pi_list (pv 0)) (pg_name (i := 2) sc_are_closed.nd rfl (.inl rfl)) (pss_cons (ps_set (i := 3) sc_are_closed.nd rfl (.inl rfl) (pe_ix (ix_any (hu9 hr)) (pv 2) pe_int (fun _ _ => by rfl))) (pss_cons (ps_if (pt_cmpR op_ge (pe_callB (cr_sumU rfl) (by rfl) E.sum (by decide +kernel) (pa_cons (pv 3) pa_nil)) (pe_callB call_lenU (by rfl) E.len (by decide +kernel) (pa_cons (pv 0) pa_nil)) (nomark _)) (pss_one (ps_ret pe_bl)) pss_nil) (pss_one (ps_for PassesOwn.never rfl (pi_tup (pe_glob (by rfl) E.g_HANDS_clocks E.r_HANDS_clocks)) (pg_name (i := 4) sc_are_closed.nd rfl (.inl rfl)) (pss_one (ps_for PassesOwn.never rfl (pi_range2 (by rfl) E.range (pa_cons pe_int (pa_cons (pe_op op_plus (pe_ix (ix_any (hu9 hr)) (pv 3) (pe_op op_sub (pv 4) pe_int) (fun _ _ => by rfl)) pe_int) pa_nil))) (pg_name (i := 5) sc_are_closed.nd rfl (.inl rfl)) (pss_cons (ps_set (i := 6) sc_are_closed.nd rfl (.inl rfl) (pe_kget1 (hu9 hr) (pv 1) (pe_tup (pa_cons (pv 4) (pa_cons (pv 5) pa_nil))) ⟨by rfl, by rfl, by rfl, by rfl⟩)) (pss_one (ps_if (PW.pt (pw_or (pt_cmp (pc_isN (pv 6)) rfl) (pw_or1 (pt_not (pt_val (pe_call (ok_is_within (T := T) E) (hr.mono (by decide)) (by rfl) E.g_is_within E.F_is_within.kp (bd_is_within E) .nil pass0 (pa_cons (pe_ix (ix_any (hu9 hr)) (pv 6) pe_int (fun _ _ => by rfl)) (pa_cons (pv 3) pa_nil)))))))) (pss_one (ps_ret pe_bl)) pss_nil)))))))))) (pss_one (ps_ret pe_bl)))), fun vs S ⟨v, e, y⟩ ⟨L, pS, g, hlen⟩ => by
    subst e
    have ndS : (S.map Deed.id).Nodup := (pS.map Deed.id).nodup_iff.mpr g.nd
    have v0 : ∀ (H1 : Hp) (σ' : L2.St), Rp T H H1 → σ'[0]? = some (some v) → Ev T (yL (ydd K)) (tVar 0) σ' H1 S := fun H1 σ' r e => ev_var e (Mono.mono r y)
    refine rt_set (ev_kdc (K := K) (P := P) (w := w) (T := T) (Y := ydd K) (Z := ydd K) (bs := S) (fun x => tI x.id) (fun x => x) (evi_list (v0 H _ (Rp.refl _) rfl)) (fun x hx u H1 r1 yx => ev_kD (ev_c1 (a := x) (f := Deed.id) (Y := yk K) (ev_var (i := 2) rfl yx) trivial)) (fun x hx u H1 r1 yx => ev_var (i := 2) rfl yx) (fun x _ => keyI _) (tI_map_nd ndS) (fun _ => rfl) (Nat.le_trans hlen (by decide))) fun bv H1 r1 yb => ?_
    intro H0 r0 En k
    have r00 := r1.trans r0
    have yb := Mono.mono (T := T) r0 yb
    refine f_for (T := T) (Y := ydd K) (bs := S) (evi_list (v0 H0 _ r00 rfl)) (fun i σ' => ∃ a b c d e, σ' = [some v, some bv, a, b, c, d, e]) ⟨none, none, none, none, none, rfl⟩ fun H2 r2 => ⟨?_, ?_⟩
    · rintro i x σ' H' xv hi r3 ⟨a, b, c, d, e, eσ⟩ yx
      subst eσ
      have hxS := List.mem_of_getElem? hi
      have hxL := pS.mem_iff.mp hxS
      have hxo := g.ok x hxL
      show tSeq _ _ _ ([some v, some bv, some xv, b, c, d, e] : L2.St) H'
      refine q_set (T := T) (Y := yk K) (a := x.seen) (ev_seen (K := K) (P := P) (w := w) (x := x) (ev_var (i := 2) rfl yx) ev_int) fun sv H4 r4 ys => ?_
      have r04 := (r00.trans r2).trans (r3.trans r4)
      show tSeq _ _ _ ([some v, some bv, some xv, some sv, c, d, e] : L2.St) H4
      refine q_ifs (T := T) (c := false) (evT_eq (et_test (ev_cmp (ev_sumk (K := K) (ev_var (i := 3) rfl ys)) (ev_leL (K := K) (P := P) (w := w) (v0 H4 _ r04 rfl)))) ?_) (fun z => by cases z) fun _ H5 r5 => ?_
      · have := g.sum_lt hxL
        have := pS.length_eq
        exact decide_eq_false (by omega)
      · refine f_for (T := T) (Y := yI) (bs := [1, 2, 3, 4]) (evi_tup (ev_kT (ev_tc E.q_HANDS_clocks))) (fun i σ' => ∃ c d e, σ' = [some v, some bv, some xv, some sv, c, d, e]) ⟨c, d, e, rfl⟩ fun H6 r6 => ⟨?_, ?_⟩
        · rintro i2 h σ' H7 hv hi2 r7 ⟨c, d, e, eσ⟩ eh
          subst eσ
          obtain rfl : hv = V.int h := eh
          have hh := hand_of hi2
          have rs7 := r5.trans (r6.trans r7)
          have ys7 := Mono.mono (T := T) (Y := yk K) rs7 ys
          have hc0 := ck_pos hxo.pos h
          have hsm : ck x.seen h < 2 ^ 61 := by
            have h1 := g.count hxL hh
            have h2 : (byHand L h).length ≤ L.length := List.length_filter_le _ _
            have h3 := pS.length_eq
            have : (1000 : Int) < 2 ^ 61 := by decide
            omega
          refine f_for (T := T) (Y := yI) (bs := _) (evi_rng2 (m := 1) (n := ck x.seen h + 1) (σ := [some v, some bv, some xv, some sv, some (.int h), d, e]) ev_int (ev_pl (K := K) (ev_suk (K := K) (P := P) (w := w) (ev_var (i := 3) rfl ys7) (ev_sub (ev_var (i := 4) rfl rfl) ev_int) (ck_at hxo.len hh)) ev_int) (by decide) ⟨by have : (0 : Int) ≤ 2 ^ 62 := (by decide); omega, by have : (2 : Int) ^ 61 + 1 < 2 ^ 62 := (by decide); omega⟩) (fun i σ' => ∃ d e, σ' = [some v, some bv, some xv, some sv, some (.int h), d, e]) ⟨d, e, rfl⟩ fun H8 r8 => ⟨?_, ?_⟩
          · rintro i3 m σ' H9 mv hi3 r9 ⟨d, e, eσ⟩ em
            subst eσ
            obtain rfl : mv = V.int m := em
            obtain ⟨j, hj, ej⟩ := List.mem_map.mp (List.mem_of_getElem? hi3)
            have hj := List.mem_range.mp hj
            have m1 : 1 ≤ m := by omega
            have m2 : m ≤ ck x.seen h := by omega
            obtain ⟨yy, hy, eh, en, le⟩ := g.cl x hxL h m hh m1 m2
            have hyS := pS.mem_iff.mpr hy
            have rs9 := rs7.trans (r8.trans r9)
            have yb9 : yM K P w (ydd K) H9 bv (S.map fun x => (tI x.id, x)) := Mono.mono (T := T) (r2.trans (r3.trans (r4.trans rs9))) yb
            have elu : lu (S.map fun x => (tI x.id, x)) (tI [h, m]) = some yy := mem_lu (by rw [List.map_map]; exact tI_map_nd ndS) (List.mem_map.mpr ⟨yy, hyS, by show (tI [yy.h, yy.n], yy) = _; rw [eh, en]⟩)
            show tSeq _ _ _ ([some v, some bv, some xv, some sv, some (.int h), some (.int m), e] : L2.St) H9
            refine q_set (T := T) (Y := ydd K) (a := yy) (ev_kg (Z := ydd K) (ev_var (i := 1) rfl yb9) (ev_kD (ev_tupk (k := [h, m]) (eds_cons (ev_var (i := 4) rfl rfl) (eds_cons (ev_var (i := 5) rfl rfl) eds_nil)) (by show 2 ≤ sizeLine; decide))) (keyI _) elu) fun ov H10 r10 yo => ?_
            have v6 : ∀ H11, Rp T H10 H11 → Ev T (ydd K) (tVar 6) [some v, some bv, some xv, some sv, some (.int h), some (.int m), some ov] H11 yy := fun H11 r => ev_var (i := 6) rfl (Mono.mono (T := T) (Y := ydd K) r yo)
            have ew : Ev T yB (tCall (sp_is_within K T) [] E0 (tCons (tOp (rSub K P w) (tVar 6) (tC (.int 2))) (tCons (tVar 3) tNil))) [some v, some bv, some xv, some sv, some (.int h), some (.int m), some ov] H10 true :=
              ev_eq (ev_c2 (a := yy.seen) (b := x.seen) (ev_seen (K := K) (P := P) (w := w) (v6 _ (Rp.refl _)) ev_int) (ev_var (i := 3) rfl (Mono.mono (T := T) (Y := yk K) (rs9.trans r10) ys)) (by show yy.seen.length ≤ 4; rw [(g.ok yy hy).len]; exact Nat.le_refl _)) (le4_all (g.ok yy hy).len hxo.len le)
            exact q_if (T := T) (c := false) (evT_eq (et_or (et_B (ev_isN (d := yy.d) (v6 _ (Rp.refl _)))) fun _ => et_not (et_B ew)) rfl) (fun z => by cases z) fun _ H11 r11 => ⟨r9.trans (r10.trans r11), _, _, rfl⟩
          · rintro σ' H9 r9 ⟨d, e, eσ⟩
            exact ⟨r7.trans (r8.trans r9), _, _, _, eσ⟩
        · rintro σ' H7 r7 ⟨c, d, e, eσ⟩
          exact ⟨r3.trans (r4.trans (r5.trans (r6.trans r7))), _, _, _, _, _, eσ⟩
    · rintro σ' H' r3 ⟨a, b, c, d, e, eσ⟩
      exact (rt_ret (T := T) (Y := yB) (σ := σ') ev_bl).go fun v H4 r4 y4 => k v H4 (r2.trans (r3.trans r4)) y4⟩
end
end K20
namespace K20
open PySem PySem.Spec PyProof.Rows L2
section
variable {P : Program} {w : World} {K : Fg} {mg : Str → Option Value} {base : Heap} {T : List (Addr × Str)} {H H' H1 : Hp} {σ : L2.St} {te ta tb t1 t2 t3 ts : TE}
theorem ev_sortT {ks : List (List Int)} (h : Ev T (yL (yk K)) te σ H ks) (hn : ∀ k ∈ ks, k ≠ []) : Ev T (yL (yk K)) (tCB (rSortT K false) (tCons te tNil)) σ H (sortI false ks) := fun H1 r1 Q q => h H1 r1 _ fun v H2 r2 ⟨a, vs, e, ha, la⟩ =>
  ⟨a, vs, ks, by rw [e], SqL.of ha, la, hn, fun c hc zs hz => q _ _ (r2.trans (Rp.new hc)) ⟨c, zs, rfl, upd_same, Paired.mapP hz fun _ _ y => Mono.mono (T := T) (Y := yk K) (Rp.new hc) y⟩⟩
theorem ev_ids {L : List Deed} (h : Ev T (yL (yid K)) te σ H L) : Ev T (yL (yk K)) te σ H (L.map Deed.id) := h.imp fun H1 v r ⟨a, vs, e, ha, la⟩ => ⟨a, vs, e, ha, go la⟩
where go {H : Hp} : ∀ {vs : List V} {L : List Deed}, Paired (yid K H) vs L → Paired (yk K H) vs (L.map Deed.id)
  | _, _, .nil => .nil
  | _, _, .cons a t => .cons a (go t)
def actAt (L : List Deed) (k : List Int) : Act := match L.find? fun x => decide (x.id = k) with
  | some x => x.act
  | none => .bk []
theorem actAt_eq {L : List Deed} {k : List Int} (h : k ∈ L.map Deed.id) : ∃ x ∈ L, x.id = k ∧ actAt L k = x.act := by
  unfold actAt
  cases e : L.find? fun x => decide (x.id = k) with
  | some x => exact ⟨x, List.mem_of_find?_eq_some e, of_decide_eq_true (List.find?_some (p := fun x : Deed => decide (x.id = k)) e), rfl⟩
  | none =>
    obtain ⟨x, hx, ex⟩ := List.mem_map.mp h
    exact absurd (decide_eq_true ex) (by simpa using List.find?_eq_none.mp e x hx)
theorem word_or (a : Act) : a.word = "write" ∨ a.word = "block" := by
  cases a with
  | wr b l r m => exact .inl rfl
  | bk b => exact .inr rfl
theorem sc_is_last_a_bar : FnScope ["past", "hand", "words", "own", "one", "act"] ["past", "hand"] (defScope s_is_last_a_bar) := ⟨rfl, rfl, rfl, by decide +kernel, rfl, by decide +kernel, by decide +kernel⟩
theorem bd_is_last_a_bar (E : Tp K mg w T base) : Binds K E.d_is_last_a_bar ["past", "hand"] [] := E.F_is_last_a_bar.bindsN fun _ _ _ _ _ _ us hl => match us, hl with | [_, _], _ => rfl
def sp_is_last (E : Tp K mg w T base) (P : Program) : Sp := PSp T (a2 (yDo E P) yI) (fun p => p.1.length ≤ 1000) yB fun _ => false
theorem ok_is_last_a_bar (E : Tp K mg w T base) : FnOk P w K mg base CX0 1 E.f_is_last_a_bar E.d_is_last_a_bar ["past", "hand"] (sp_is_last E P) :=
  ok_rets E.F_is_last_a_bar sc_is_last_a_bar (fun _ _ _ h => len2 h) fun cdv Ar outer s H Ex hr => ⟨_, PSs.nox (pss_cons (ps_setLc (i := 2) (own := [("one", 4)]) (g := gName 4) (tt := tYes) rfl sc_is_last_a_bar.nd rfl rfl (sw_true rfl rfl rfl (by decide +kernel)) (pi_list (pe_callB (cr_sortT (hu9 hr)) (by rfl) E.sorted (by decide +kernel) (pa_cons (pe_fld (pv 0) (by rfl)) pa_nil))) (blkOk_by (own := [("one", 4)]) (N := ["past", "hand", "words", "own", "one", "act"]) (sc := defScope s_is_last_a_bar) (by decide +kernel)) (fun _ _ _ _ _ => (pg_name (i := 4) sc_is_last_a_bar.nd rfl (.inl rfl))) (fun _ _ _ _ _ => pts_nil) (fun _ _ _ _ _ => (pe_ix (ix_anyK K P w (hu9 hr) (by rfl) (by rfl) (by rfl)) (pe_ix (ix_anyK K P w (hu9 hr) (by rfl) (by rfl) (by rfl)) (pe_fldK K (pv 0) (by rfl) (by rfl)) (pv 4) (fun _ _ => by rfl)) pe_int (fun _ _ => by rfl)))) (pss_cons (ps_setLc (i := 3) (own := [("act", 5)]) (g := gName 5) rfl sc_is_last_a_bar.nd rfl rfl (sw_true rfl rfl rfl (by decide +kernel)) (pi_list (pv 2)) (blkOk_by (own := [("act", 5)]) (N := ["past", "hand", "words", "own", "one", "act"]) (sc := defScope s_is_last_a_bar) (by decide +kernel)) (fun _ _ _ _ _ => (pg_name (i := 5) sc_is_last_a_bar.nd rfl (.inl rfl))) (fun _ _ _ _ _ => pts_one (PW.pt (pw_and (pt_cmpR (op_inUK K P w (hu9 hr) (by rfl) (by rfl) (by rfl)) (pe_ix (ix_anyK K P w (hu9 hr) (by rfl) (by rfl) (by rfl)) (pv 5) pe_int (fun _ _ => by rfl)) (pe_tup (pa_cons pe_str (pa_cons pe_str pa_nil))) (by rfl)) (pw_and1 (pt_cmpR (op_eqKK K (hu64 hr) (by rfl)) (pe_ix (ix_anyK K P w (hu9 hr) (by rfl) (by rfl) (by rfl)) (pv 5) pe_int (fun _ _ => by rfl)) (pv 1) (nomark _)))))) (fun _ _ _ _ _ => (pv 5))) (pss_one (ps_ret (pe_and (pe_cmpR op_gt (pe_callB call_lenU (by rfl) E.len (by decide +kernel) (pa_cons (pv 3) pa_nil)) pe_int (nomark _)) (pe_one (pe_cmpR (op_eqK (hu64 hr)) (pe_ix (ix_any (hu9 hr)) (pe_ix (ix_any (hu9 hr)) (pv 3) (pe_un un_neg pe_int) (fun _ _ => by rfl)) pe_int (fun _ _ => by rfl)) pe_str (nomark _)))))))), fun vs p ⟨v, u, e, y, z⟩ hl => by
    subst e
    obtain ⟨L, h⟩ := p
    have y : yDo E P H v L := y
    have hl : L.length ≤ 1000 := hl
    have v0 : ∀ (H1 : Hp) (σ' : L2.St), Rp T H H1 → σ'[0]? = some (some v) → Ev T (yDo E P) (tVar 0) σ' H1 L := fun H1 σ' r e => ev_var e (Mono.mono r y)
    have sl : (sortI false (L.map Deed.id)).length ≤ 1000 := by
      rw [(sortI_perm _ _).length_eq, List.length_map]
      exact hl
    refine rt_set (ev_lm (T := T) (Y := yk K) (Z := yact K) (bs := sortI false (L.map Deed.id)) (actAt L) (evi_list (ev_sortT (ev_ids (ev_turn (v0 H _ (Rp.refl _) rfl))) (fun k hk => by
      obtain ⟨x, _, e⟩ := List.mem_map.mp hk
      rw [← e]
      exact fun z => by cases z))) (fun k hk x H1 r1 yk1 => by
        obtain ⟨d, hd, ed, ea⟩ := actAt_eq (mem_sortI.mp hk)
        rw [ea]
        exact ev_act (K := K) (P := P) (w := w) (x := d) (ev_byid (E := E) (P := P) (x := d) (v0 H1 _ r1 rfl) (ev_var (i := 4) rfl (by show yk K H1 x d.id; rw [ed]; exact yk1)) hd) ev_int) (fun _ => rfl) (Nat.le_trans sl (by decide))) fun wv H1 r1 yw => ?_
    refine rt_set (ev_lc (T := T) (Y := yact K) (Z := yact K) (bs := (sortI false (L.map Deed.id)).map (actAt L)) (fun _ => false) id (evi_list (ev_var (i := 2) rfl yw)) (fun a ha x H2 r2 ya => evT_eq (et_and (et_test (ev_inQ (K := K) (P := P) (w := w) (n := false) (bs := ["bar", "let"]) (ev_word (ev_var (i := 5) rfl ya) ev_int) (ev_tupT (eds_cons ev_str (eds_cons ev_str eds_nil)) (by show 2 ≤ sizeLine; decide)))) (b := true) fun q => ?_) ?_) (fun a ha q => by cases q) (fun _ => rfl) (by rw [List.length_map]; exact Nat.le_trans sl (by decide))) fun ov H2 r2 yo => ?_
    · exfalso
      rcases word_or a with e | e <;> (rw [e] at q; exact absurd q (by decide +kernel))
    · rcases word_or a with e | e <;> (rw [e]; decide +kernel)
    · have e0 : (((sortI false (L.map Deed.id)).map (actAt L)).filter fun _ => false).map id = ([] : List Act) := by
        rw [List.filter_eq_nil_iff.mpr (fun _ _ => by simp)]
        rfl
      rw [e0] at yo
      exact rt_retE (ev_andV (b := true) (ev_cmp (ev_leL (K := K) (P := P) (w := w) (ev_var (i := 3) rfl yo)) ev_int) fun q => absurd q (by decide)) rfl⟩
end
end K20
namespace K20
open PySem PySem.Spec PyProof.Rows L2
section
variable {P : Program} {w : World} {K : Fg} {mg : Str → Option Value} {base : Heap} {T : List (Addr × Str)} {H H' H1 : Hp} {σ : L2.St} {te ta tb t1 t2 t3 ts : TE}
theorem ev_oD {o : Option (List Int)} (h : Ev T (yo K) te σ H o) : Ev T (yD K) te σ H (oD o) := h
theorem ev_some {ks : List (List Int)} (h : Ev T (yL (yk K)) te σ H ks) : Ev T (yL (yo K)) te σ H (ks.map some) := h.imp fun H1 v r ⟨a, vs, e, ha, l⟩ => ⟨a, vs, e, ha, go l⟩
where go {H : Hp} : ∀ {vs : List V} {ks : List (List Int)}, Paired (yk K H) vs ks → Paired (yo K H) vs (ks.map some)
  | _, _, .nil => .nil
  | _, _, .cons a t => .cons a (go t)
theorem oD_ok (o : Option (List Int)) : okD (oD o) = true := by
  cases o with
  | none => rfl
  | some k => exact tI_ok k
theorem sc_are_neighbours : FnScope ["row", "left", "right", "places", "at"] ["row", "left", "right"] (defScope s_are_neighbours) := ⟨rfl, rfl, rfl, by decide +kernel, rfl, by decide +kernel, by decide +kernel⟩
theorem bd_are_neighbours (E : Tp K mg w T base) : Binds K E.d_are_neighbours ["row", "left", "right"] [] := E.F_are_neighbours.bindsN fun _ _ _ _ _ _ us hl => match us, hl with | [_, _, _], _ => rfl
def sp_neigh (K : Fg) (T : List (Addr × Str)) : Sp := PSp T (a3 (yL (yk K)) (yo K) (yo K)) (fun p => p.1.length ≤ 5000 ∧ Gap (ends p.1) p.2.1 p.2.2) yB fun _ => true
theorem ok_are_neighbours (E : Tp K mg w T base) : FnOk P w K mg base CX0 1 E.f_are_neighbours E.d_are_neighbours ["row", "left", "right"] (sp_neigh K T) :=
  ok_rets E.F_are_neighbours sc_are_neighbours (fun _ _ _ h => len3 h) fun cdv Ar outer s H Ex hr => ⟨_, PSs.nox (pss_cons (ps_set (i := 3) sc_are_neighbours.nd rfl (.inr rfl) (pe_op op_plus (pe_op op_plus (pe_lst (pa_cons pe_non pa_nil)) (pe_callTy call_list_of (by rfl) E.list (by decide +kernel) (pa_cons (pv 0) pa_nil))) (pe_lst (pa_cons pe_non pa_nil)))) (pss_one (ps_ret (pe_callB (cr_any rfl) (by rfl) E.any (by decide +kernel) (pa_cons (pe_lc (own := [("at", 4)]) (g := gName 4) (tt := tYes) rfl sc_are_neighbours.nd (pi_range1 (by rfl) E.range (pa_cons (pe_op op_sub (pe_callB call_lenU (by rfl) E.len (by decide +kernel) (pa_cons (pv 3) pa_nil)) pe_int) pa_nil)) (blkOk_by (own := [("at", 4)]) (N := ["row", "left", "right", "places", "at"]) (sc := defScope s_are_neighbours) (by decide +kernel)) (fun _ _ _ _ _ => (pg_name (i := 4) sc_are_neighbours.nd rfl (.inl rfl))) (fun _ _ _ _ _ => pts_nil) (fun _ _ _ _ _ => (pe_and (pe_cmpR (op_eqKK K (hu64 hr) (by rfl)) (pe_ix (ix_anyK K P w (hu9 hr) (by rfl) (by rfl) (by rfl)) (pv 3) (pv 4) (fun _ _ => by rfl)) (pv 1) (nomark _)) (pe_one (pe_cmpR (op_eqKK K (hu64 hr) (by rfl)) (pe_ix (ix_anyK K P w (hu9 hr) (by rfl) (by rfl) (by rfl)) (pv 3) (pe_op (op_plusK K (by rfl)) (pv 4) pe_int) (fun _ _ => by rfl)) (pv 2) (nomark _)))))) pa_nil))))), fun vs p ⟨v, u, z, e, y1, y2, y3⟩ ⟨hl, hg⟩ => by
    subst e
    obtain ⟨row, l, r⟩ := p
    have y1 : yL (yk K) H v row := y1
    have y2 : yo K H u l := y2
    have y3 : yo K H z r := y3
    have hl : row.length ≤ 5000 := hl
    have hg : Gap (ends row) l r := hg
    have le : (ends row).length = row.length + 2 := by
      unfold ends
      rw [List.length_append, List.length_append, List.length_map]
      show 1 + row.length + 1 = _
      omega
    have big : ∀ {j : Nat}, j ≤ 7000 → j ≤ sizeLine := fun h => Nat.le_trans h (by decide)
    refine rt_set (ev_plL (K := K) (T := T) (Y := yo K) (bs := [none] ++ row.map some) (cs := [none]) (ev_plL (Y := yo K) (bs := [none]) (cs := row.map some) (ev_lst (eds_cons ev_nonD eds_nil) (by show 1 ≤ sizeLine; decide)) (ev_some (ev_listL (ev_var (i := 0) rfl y1))) (big (by show 1 + (row.map some).length ≤ 7000; rw [List.length_map]; omega))) (ev_lst (eds_cons ev_nonD eds_nil) (by show 1 ≤ sizeLine; decide)) (big (by rw [List.length_append, List.length_map]; show 1 + row.length + 1 ≤ 7000; omega))) fun pv H1 r1 yp => ?_
    have yp : yL (yo K) H1 pv (ends row) := yp
    have hN : ((ends row).length : Int) - 1 = ((row.length + 1 : Nat) : Int) := by omega
    have vp : ∀ (H2 : Hp) (σ' : L2.St), Rp T H1 H2 → σ'[3]? = some (some pv) → Ev T (yL (yo K)) (tVar 3) σ' H2 (ends row) := fun H2 σ' r e => ev_var e (Mono.mono r yp)
    refine rt_retE (ev_any (ev_lm (T := T) (Y := yI) (Z := yB) (bs := (List.range (row.length + 1)).map fun (i : Nat) => (i : Int)) (fun i => decide (oD ((ends row).getD i.toNat none) = oD l) && decide (oD ((ends row).getD (i + 1).toNat none) = oD r)) ?_ (fun i hi x H2 r2 ex => ?_) (fun _ => rfl) (by rw [List.length_map, List.length_range]; exact big (by omega)))) ?_
    · refine evi_range (n := ((row.length + 1 : Nat) : Int)) (fun H2 r2 Q' q' => ?_) (by omega) (by have : (7000 : Int) < 2 ^ 62 := (by decide); omega)
      refine ev_sub (ev_leL (K := K) (P := P) (w := w) (T := T) (σ := [some v, some u, some z, some pv, none]) (vp H1 _ (Rp.refl _) rfl)) ev_int H2 r2 _ fun lv H3 r3 e3 => ?_
      refine q' _ H3 r3 ?_
      rw [show lv = V.int _ from e3, hN]
    · obtain rfl : x = V.int i := ex
      obtain ⟨j, hj, ej⟩ := List.mem_map.mp hi
      have hj := List.mem_range.mp hj
      subst ej
      have g0 : atI (ends row) (j : Int) = some ((ends row).getD j none) := atI_nat (by rw [List.getD_eq_getElem?_getD, List.getElem?_eq_getElem (by omega)]; rfl)
      have g1 : atI (ends row) ((j : Int) + 1) = some ((ends row).getD (j + 1) none) := by
        have e : (j : Int) + 1 = ((j + 1 : Nat) : Int) := by omega
        rw [e]
        exact atI_nat (by rw [List.getD_eq_getElem?_getD, List.getElem?_eq_getElem (by omega)]; rfl)
      have e0 : ((j : Int)).toNat = j := Int.toNat_natCast j
      have e1 : ((j : Int) + 1).toNat = j + 1 := by omega
      rw [e0, e1]
      refine ev_andV (ev_eqK (K := K) (ev_oD (ev_suL (Y := yo K) (P := P) (w := w) (vp H2 _ r2 rfl) (ev_var (i := 4) rfl rfl) g0)) (ev_oD (ev_var (i := 1) rfl (Mono.mono (T := T) (Y := yo K) (r1.trans r2) y2))) (oD_ok _) (oD_ok _)) fun _ => ev_eqK (K := K) (ev_oD (ev_suL (Y := yo K) (P := P) (w := w) (vp H2 _ r2 rfl) (ev_pl (ev_var (i := 4) rfl rfl) ev_int) g1)) (ev_oD (ev_var (i := 2) rfl (Mono.mono (T := T) (Y := yo K) (r1.trans r2) y3))) (oD_ok _) (oD_ok _)
    · obtain ⟨i, h1, h2⟩ := hg
      have il : i + 1 < (ends row).length := (List.getElem?_eq_some_iff.mp h2).1
      rw [List.any_map, List.any_map, List.any_eq_true]
      refine ⟨i, List.mem_range.mpr (by omega), ?_⟩
      show (decide (oD ((ends row).getD (i : Int).toNat none) = oD l) && decide (oD ((ends row).getD ((i : Int) + 1).toNat none) = oD r)) = true
      have e0 : ((i : Int)).toNat = i := Int.toNat_natCast i
      have e1 : ((i : Int) + 1).toNat = i + 1 := by omega
      rw [e0, e1, List.getD_eq_getElem?_getD, List.getD_eq_getElem?_getD, h1, h2, Option.getD_some, Option.getD_some, decide_eq_true rfl, decide_eq_true rfl]
      rfl⟩
end
end K20
namespace K20
open PySem PySem.Spec PyProof.Rows L2
section
variable {P : Program} {w : World} {K : Fg} {mg : Str → Option Value} {base : Heap} {T : List (Addr × Str)} {H H' H1 : Hp} {σ : L2.St} {te ta tb t1 t2 t3 ts : TE}
theorem sc_fits_blocks : FnScope ["past", "act", "block"] ["past", "act"] (defScope s_fits_blocks) := ⟨rfl, rfl, rfl, by decide +kernel, rfl, by decide +kernel, by decide +kernel⟩
theorem bd_fits_blocks (E : Tp K mg w T base) : Binds K E.d_fits_blocks ["past", "act"] [] := E.F_fits_blocks.bindsN fun _ _ _ _ _ _ us hl => match us, hl with | [_, _], _ => rfl
def sp_fits_blocks (E : Tp K mg w T base) (P : Program) : Sp := PSp T (a2 (yDo E P) (yact K)) (fun p => (p.1.map Deed.id).Nodup ∧ ∃ b, p.2 = .bk b ∧ IsBlock p.1 b) yB fun _ => true
theorem ok_fits_blocks (E : Tp K mg w T base) : FnOk P w K mg base CX0 2 E.f_fits_blocks E.d_fits_blocks ["past", "act"] (sp_fits_blocks E P) :=
  ok_rets E.F_fits_blocks sc_fits_blocks (fun _ _ _ h => len2 h) fun cdv Ar outer s H Ex hr => ⟨_, PSs.nox (pss_cons (ps_if (PW.pt (pw_and (pt_cmpR (op_neK (hu64 hr)) (pe_ix (ix_any (hu9 hr)) (pv 1) pe_int (fun _ _ => by rfl)) pe_str (nomark _)) (pw_and1 (pt_cmpR (op_eqK (hu64 hr)) (pe_ix (ix_any (hu9 hr)) (pv 1) pe_int (fun _ _ => by rfl)) (pe_glob (by rfl) E.g_ROOT_deeds E.r_ROOT_deeds) (nomark _))))) (pss_one (ps_ret pe_bl)) pss_nil) (pss_one (ps_ret (pe_callB (cr_all rfl) (by rfl) E.all (by decide +kernel) (pa_cons (pe_lc (own := [("block", 2)]) (g := gName 2) (tt := tYes) rfl sc_fits_blocks.nd (pi_tup (pe_slice sl_tupA (pv 1) (po_some pe_int) po_none)) (blkOk_by (own := [("block", 2)]) (N := ["past", "act", "block"]) (sc := defScope s_fits_blocks) (by decide +kernel)) (fun _ _ _ _ _ => (pg_name (i := 2) sc_fits_blocks.nd rfl (.inl rfl))) (fun _ _ _ _ _ => pts_nil) (fun _ _ _ _ _ => (pe_or (pe_cmp (pc_isN (pv 2)) rfl) (pe_one (pe_meth (k := 1) (pv 0) E.c_Deeds E.m_Deeds_is_block (ok_Deeds_is_block (T := T) E) (hr.mono (by decide)) (bd_Deeds_is_block E) .nil pass0 (pa_cons (pv 2) pa_nil)))))) pa_nil))))), fun vs p ⟨v, u, e, y, z⟩ ⟨nd, b, ea, hb⟩ => by
    subst e
    obtain ⟨L, a⟩ := p
    have ea : a = .bk b := ea
    subst ea
    have y : yDo E P H v L := y
    have z : Dt K H u (Act.bk b).d := z
    have v1 : Ev T (yD K) (tVar 1) (start ["past", "act", "block"] [v, u]) H (.tup [.text "block", tI b, .none]) := ev_var rfl z
    have va : Ev T (yact K) (tVar 1) (start ["past", "act", "block"] [v, u]) H (.bk b) := ev_var rfl z
    refine rt_no (evT_eq (et_and (et_test (ev_neT (ev_word (K := K) (P := P) (w := w) (a := .bk b) va ev_int) ev_str (word_ok _) (by decide +kernel))) (b := true) fun q => absurd q (by show ¬ ((!decide (("block" : Str) = "block")) = true); decide +kernel)) (by show ((!decide (("block" : Str) = "block")) && true) = false; decide +kernel)) ?_
    refine rt_retE (ev_all (ev_lm (T := T) (Y := yD K) (Z := yB) (bs := [tI b, .none]) (fun _ => true) (evi_tup (ev_slT (K := K) (lo := some 1) (hi := none) (ev_DT v1) (eo_some ev_int) eo_none)) (fun d hd x H1 r1 yd => ?_) (fun _ => rfl) (by show 2 ≤ sizeLine; decide))) rfl
    have vx : Ev T (yD K) (tVar 2) [some v, some u, some x] H1 d := ev_var (i := 2) rfl yd
    rcases List.mem_cons.mp hd with e | hd
    · subst e
      refine ev_eq (ev_orV (ev_isN (d := tI b) vx) fun _ => ev_m2 (T := T) (C := E.C_Deeds) (m := "is_block") (Y := yB) (Ex := E0) (f := fun p => IsBlockB p.1 p.2) (pre := fun p => (p.1.map Deed.id).Nodup) (Y1 := yDo E P) (Y2 := yk K) (a := L) (b := b) (ev_var (i := 0) rfl (Mono.mono r1 y)) (isDo (by decide +kernel)) vx nd) ?_
      show (false || IsBlockB L b) = true
      rw [isBlockB.mpr hb]
      rfl
    · have e := List.mem_singleton.mp hd
      subst e
      exact ev_eq (ev_orV (ev_isN (d := .none) vx) (b := true) fun q => by cases q) rfl⟩
theorem sc_fits_write : FnScope ["past", "act"] ["past", "act"] (defScope s_fits_write) := ⟨rfl, rfl, rfl, by decide +kernel, rfl, by decide +kernel, by decide +kernel⟩
theorem bd_fits_write (E : Tp K mg w T base) : Binds K E.d_fits_write ["past", "act"] [] := E.F_fits_write.bindsN fun _ _ _ _ _ _ us hl => match us, hl with | [_, _], _ => rfl
def sp_fits_write (E : Tp K mg w T base) (P : Program) : Sp := fun vs H Q _ => ∃ (p k m av : Addr) (L : List Deed) (wd tr : Option V) (xv : V) (a : Act), vs = [.ref p, xv] ∧ Liv E P H p L k m av wd tr ∧ yact K H xv a ∧ (∃ b l r mm, a = .wr b l r mm) ∧ FitsX L a ∧
  ∀ H' wd' tr', Rk T k H H' → Liv E P H' p L k m av wd' tr' → Q (.bl true) H'
theorem ok_fits_write (E : Tp K mg w T base) : FnOk P w K mg base CX0 9 E.f_fits_write E.d_fits_write ["past", "act"] (sp_fits_write E P) := by
  refine E.F_fits_write.ok sc_fits_write (fun vs H Q Ex h => ?_) (fun cdv Ar outer s H vs Q Ex hr h => ⟨_, PSs.nox (pss_cons (ps_if (pt_not (pt_val (pe_meth (pv 0) E.c_Deeds E.m_Deeds_is_block (ok_Deeds_is_block (T := T) E) (hr.mono (by decide)) (bd_Deeds_is_block E) .nil pass0 (pa_cons (pe_ix (ix_any (hu9 hr)) (pv 1) pe_int (fun _ _ => by rfl)) pa_nil)))) (pss_one (ps_ret pe_bl)) pss_nil) (pss_one (ps_ret (pe_call (ok_are_neighbours (T := T) E) (hr.mono (by decide)) (by rfl) E.g_are_neighbours E.F_are_neighbours.kp (bd_are_neighbours E) .nil pass0 (pa_cons (pe_call (ok_open_row (T := T) E) (hr.mono (by decide)) (by rfl) E.g_open_row E.F_open_row.kp (bd_open_row E) .nil pass0 (pa_cons (pv 0) (pa_cons (pe_ix (ix_any (hu9 hr)) (pv 1) pe_int (fun _ _ => by rfl)) pa_nil))) (pa_cons (pe_ix (ix_any (hu9 hr)) (pv 1) pe_int (fun _ _ => by rfl)) (pa_cons (pe_ix (ix_any (hu9 hr)) (pv 1) pe_int (fun _ _ => by rfl)) pa_nil))))))), ?_⟩)
  · obtain ⟨p, k, m, av, L, wd, tr, xv, a, rfl, _⟩ := h
    rfl
  obtain ⟨p, k, m, av, L, wd, tr, xv, a, rfl, x, ya, ⟨b, l, r, mm, rfl⟩, f, kk⟩ := h
  obtain ⟨hb, hg, _, _⟩ := f
  have d0 : ∀ H1, Rp T H H1 → Ev T (yDo E P) (tVar 0) [some (.ref p), some xv] H1 L := fun H1 r1 => ev_var (i := 0) rfl ⟨p, k, m, rfl, x.ob.rp r1⟩
  have a0 : ∀ H1, Tk H H1 → Ev T (yD K) (tVar 1) [some (.ref p), some xv] H1 (.tup [.text "write", tI b, oD l, oD r, .text (pre mm)]) := fun H1 r1 => ev_var (i := 1) rfl (Imm.imm (Y := yD K) r1 ya)
  refine q_ifs (T := T) (c := false) (evT_eq (et_not (et_B (ev_m2 (T := T) (C := E.C_Deeds) (m := "is_block") (Y := yB) (Ex := E0) (f := fun p => IsBlockB p.1 p.2) (pre := fun p => (p.1.map Deed.id).Nodup) (Y1 := yDo E P) (Y2 := yk K) (a := L) (b := b) (d0 H (Rp.refl _)) (isDo (by decide +kernel)) (ev_suD (K := K) (P := P) (w := w) (d := tI b) (a0 H (Tk.refl _)) ev_int rfl) x.gd.nd))) ?_) (fun z => by cases z) fun _ H1 r1 => ?_
  · show (!IsBlockB L b) = false
    rw [isBlockB.mpr hb]
    rfl
  refine ⟨.ref p, rfl, ?_⟩
  refine ev_suD (K := K) (P := P) (w := w) (T := T) (d := tI b) (a0 H1 r1.tk) ev_int rfl H1 (Rp.refl _) _ fun bv H2 r2 yb => ?_
  refine ⟨p, k, m, av, L, wd, tr, bv, b, rfl, x.rp (r1.trans r2), yb, hb, fun rv H3 wd' tr' rk x3 yr => ?_⟩
  obtain ⟨lk, hlk⟩ := (x.rp (r1.trans r2)).kp.dk
  have tk3 : Tk H H3 := (r1.trans r2).tk.trans (rk.rw_ hlk).tk
  refine ev_suD (K := K) (P := P) (w := w) (T := T) (d := oD l) (a0 H3 tk3) ev_int rfl H3 (Rp.refl _) _ fun lv H4 r4 yl => ?_
  refine ev_suD (K := K) (P := P) (w := w) (T := T) (d := oD r) (a0 H4 (tk3.trans r4.tk)) ev_int rfl H4 (Rp.refl _) _ fun rv2 H5 r5 yr2 => ?_
  refine ⟨(line L b, l, r), ⟨rv, lv, rv2, rfl, Mono.mono (r4.trans r5) yr, Mono.mono (T := T) (Y := yo K) r5 yl, yr2⟩, ⟨?_, hg⟩, fun v H6 r6 ev => ?_⟩
  · have h1 : (line L b).length = (tree L b).length := row_len (x.gd.tb b)
    have h2 := tree_le x.gd b
    have h3 := ctree_3000 x.gd x.len
    show (line L b).length ≤ 5000
    omega
  · obtain rfl : v = V.bl true := ev
    exact kk H6 wd' tr' (((r1.trans r2).rk.trans rk).trans (r4.trans (r5.trans r6)).rk) (x3.rp (r4.trans (r5.trans r6)))
theorem sc_fits_past : FnScope ["past", "deed", "act", "word", "sign"] ["past", "deed"] (defScope s_fits_past) := ⟨rfl, rfl, rfl, by decide +kernel, rfl, by decide +kernel, by decide +kernel⟩
theorem bd_fits_past (E : Tp K mg w T base) : Binds K E.d_fits_past ["past", "deed"] [] := E.F_fits_past.bindsN fun _ _ _ _ _ _ us hl => match us, hl with | [_, _], _ => rfl
def sp_fits_past (E : Tp K mg w T base) (P : Program) : Sp := fun vs H Q _ => ∃ (p k m av : Addr) (L : List Deed) (wd tr : Option V) (xv : V) (x : Deed), vs = [.ref p, xv] ∧ Liv E P H p L k m av wd tr ∧ ydd K H xv x ∧ FitsX L x.act ∧
  ∀ H' wd' tr', Rk T k H H' → Liv E P H' p L k m av wd' tr' → Q (.bl true) H'
theorem ok_fits_past (E : Tp K mg w T base) : FnOk P w K mg base CX0 10 E.f_fits_past E.d_fits_past ["past", "deed"] (sp_fits_past E P) := by
  refine E.F_fits_past.ok sc_fits_past (fun vs H Q Ex h => ?_) (fun cdv Ar outer s H vs Q Ex hr h => ⟨_, PSs.nox (pss_cons (ps_set (i := 2) sc_fits_past.nd rfl (.inl rfl) (pe_ix (ix_any (hu9 hr)) (pv 1) pe_int (fun _ _ => by rfl))) (pss_cons (ps_set (i := 3) sc_fits_past.nd rfl (.inl rfl) (pe_ix (ix_any (hu9 hr)) (pv 2) pe_int (fun _ _ => by rfl))) (pss_cons (ps_if (pt_cmpR (op_eqK (hu64 hr)) (pv 3) pe_str (nomark _)) (pss_one (ps_ret pe_bl)) pss_nil) (pss_cons (ps_if (pt_val (pe_call (ok_is_last_a_bar (T := T) E) (hr.mono (by decide)) (by rfl) E.g_is_last_a_bar E.F_is_last_a_bar.kp (bd_is_last_a_bar E) .nil pass0 (pa_cons (pv 0) (pa_cons (pe_ix (ix_any (hu9 hr)) (pv 1) pe_int (fun _ _ => by rfl)) pa_nil)))) (pss_one (ps_ret pe_bl)) pss_nil) (pss_cons (ps_if (pt_cmpR (op_eqK (hu64 hr)) (pv 3) pe_str (nomark _)) (pss_one (ps_ret (pe_call (ok_fits_write (T := T) E) (hr.mono (by decide)) (by rfl) E.g_fits_write E.F_fits_write.kp (bd_fits_write E) .nil pass0 (pa_cons (pv 0) (pa_cons (pv 2) pa_nil))))) pss_nil) (pss_cons (ps_if (pt_cmpR (op_eqK (hu64 hr)) (pv 3) pe_str (nomark _)) (pss_one ps_never) pss_nil) (pss_cons (ps_if (PW.pt (pw_or (pt_cmpR (op_eqK (hu64 hr)) (pv 3) pe_str (nomark _)) (pw_or1 (pt_cmpR (op_eqK (hu64 hr)) (pv 3) pe_str (nomark _))))) (pss_one ps_never) pss_nil) (pss_cons (ps_if (pt_cmpR (op_inU (hu9 hr)) (pv 3) (pe_tup (pa_cons pe_str (pa_cons pe_str (pa_cons pe_str pa_nil)))) (by rfl)) (pss_one (ps_ret (pe_call (ok_fits_blocks (T := T) E) (hr.mono (by decide)) (by rfl) E.g_fits_blocks E.F_fits_blocks.kp (bd_fits_blocks E) .nil pass0 (pa_cons (pv 0) (pa_cons (pv 2) pa_nil))))) pss_nil) (pss_cons (ps_if (PW.pt (pw_or (pt_cmpR (op_eqK (hu64 hr)) (pv 3) pe_str (nomark _)) (pw_or1 (pt_cmpR (op_eqK (hu64 hr)) (pv 3) pe_str (nomark _))))) (pss_one ps_never) pss_nil) (pss_one (ps_ret (pe_cmpR (op_eqK (hu64 hr)) (pe_ix (ix_any (hu9 hr)) (pv 1) pe_int (fun _ _ => by rfl)) pe_int (nomark _))))))))))))), ?_⟩)
  · obtain ⟨p, k, m, av, L, wd, tr, xv, x, rfl, _⟩ := h
    rfl
  obtain ⟨p, k, m, av, L, wd, tr, xv, x, rfl, lv, yx, f, kk⟩ := h
  refine q_set (T := T) (Y := yact K) (a := x.act) (ev_act (K := K) (P := P) (w := w) (x := x) (ev_var (i := 1) rfl yx) ev_int) fun avv H1 r1 ya => ?_
  refine q_set (T := T) (Y := yS) (a := x.act.word) (ev_word (K := K) (P := P) (w := w) (a := x.act) (ev_var (i := 2) rfl ya) ev_int) fun wv H2 r2 yw => ?_
  obtain rfl : wv = V.str x.act.word := yw
  show tSeq _ _ _ ([some (.ref p), some xv, some avv, some (.str x.act.word), none] : L2.St) H2
  have r02 := r1.trans r2
  have ya2 : yact K H2 avv x.act := Mono.mono (T := T) (Y := yact K) r2 ya
  have w3 : ∀ H3, Ev T yS (tVar 3) [some (.ref p), some xv, some avv, some (.str x.act.word), none] H3 x.act.word := fun H3 => ev_var (i := 3) rfl rfl
  have noW : ∀ (z : Str), okD (.text z) = true → x.act.word ≠ z → ∀ H3, EvT T (tTest (tOp (rEqK K) (tVar 3) (tC (.str z)))) [some (.ref p), some xv, some avv, some (.str x.act.word), none] H3 false := fun z hz hne H3 => evT_eq (et_test (ev_eqT (w3 H3) ev_str (word_ok _) hz)) (decide_eq_false hne)
  have ne : ∀ z : Str, (("write" : Str) ≠ z) → (("block" : Str) ≠ z) → x.act.word ≠ z := fun z h1 h2 => by
    rcases word_or x.act with e | e <;> rw [e]
    · exact h1
    · exact h2
  refine q_ifs (T := T) (c := false) (noW _ (by decide +kernel) (ne _ (by decide +kernel) (by decide +kernel)) _) (fun z => by cases z) fun _ H3 r3 => ?_
  refine q_ifs (T := T) (c := false) (et_B (ev_c2 (T := T) (Y := yB) (f := fun _ => false) (pre := fun p => p.1.length ≤ 1000) (Y1 := yDo E P) (Y2 := yI) (a := L) (b := x.h) (ev_var (i := 0) rfl ⟨p, k, m, rfl, lv.ob.rp (r02.trans r3)⟩) (ev_h (K := K) (P := P) (w := w) (ev_var (i := 1) rfl (Mono.mono (T := T) (Y := ydd K) (r02.trans r3) yx)) ev_int) lv.len)) (fun z => by cases z) fun _ H4 r4 => ?_
  have r04 := r02.trans (r3.trans r4)
  have ya4 : yact K H4 avv x.act := Mono.mono (T := T) (Y := yact K) (r3.trans r4) ya2
  rcases word_or x.act with e | e
  · refine q_ifs (T := T) (c := true) (evT_eq (et_test (ev_eqT (w3 H4) ev_str (word_ok _) (by decide +kernel))) (decide_eq_true e)) (fun _ H5 r5 => ?_) (fun z => by cases z)
    have r05 := r04.trans r5
    refine ⟨.ref p, rfl, avv, rfl, p, k, m, av, L, wd, tr, avv, x.act, rfl, lv.rp r05, Mono.mono (T := T) (Y := yact K) r5 ya4, ?_, f, fun H' wd' tr' rk lv' => kk H' wd' tr' (r05.rk.trans rk) lv'⟩
    cases ha : x.act with
    | wr b l r mm => exact ⟨b, l, r, mm, rfl⟩
    | bk b =>
      rw [ha] at e
      exact absurd e (by decide +kernel : ¬ (("block" : Str) = "write"))
  · have e' : ∃ b, x.act = .bk b := by
      cases ha : x.act with
      | wr b l r mm =>
        rw [ha] at e
        exact absurd e (by decide +kernel : ¬ (("write" : Str) = "block"))
      | bk b => exact ⟨b, rfl⟩
    obtain ⟨b, eb⟩ := e'
    have nb : ∀ z : Str, ("block" : Str) ≠ z → x.act.word ≠ z := fun z h => by rw [e]; exact h
    refine q_ifs (T := T) (c := false) (noW _ (by decide +kernel) (nb _ (by decide +kernel)) _) (fun z => by cases z) fun _ H5 r5 => ?_
    refine q_ifs (T := T) (c := false) (noW _ (by decide +kernel) (nb _ (by decide +kernel)) _) (fun z => by cases z) fun _ H6 r6 => ?_
    refine q_ifs (T := T) (c := false) (evT_eq (et_or (noW _ (by decide +kernel) (nb _ (by decide +kernel)) _) fun _ => noW _ (by decide +kernel) (nb _ (by decide +kernel)) _) rfl) (fun z => by cases z) fun _ H7 r7 => ?_
    have r07 := r04.trans (r5.trans (r6.trans r7))
    refine q_ifs (T := T) (c := true) (evT_eq (et_test (ev_inQ (K := K) (P := P) (w := w) (n := false) (bs := ["block", "move", "drop"]) (w3 H7) (ev_tupT (eds_cons ev_str (eds_cons ev_str (eds_cons ev_str eds_nil))) (by show 3 ≤ sizeLine; decide)))) (by rw [e]; decide +kernel)) (fun _ H8 r8 => ?_) (fun z => by cases z)
    have r08 := r07.trans r8
    have fb : IsBlock L b := by
      rw [eb] at f
      exact f
    refine ev_c2 (T := T) (Y := yB) (f := fun _ => true) (pre := fun p => (p.1.map Deed.id).Nodup ∧ ∃ b, p.2 = .bk b ∧ IsBlock p.1 b) (Y1 := yDo E P) (Y2 := yact K) (a := L) (b := x.act) (E := E0) (σ := [some (.ref p), some xv, some avv, some (.str x.act.word), none]) (ev_var (i := 0) rfl ⟨p, k, m, rfl, lv.ob.rp r08⟩) (ev_var (i := 2) rfl (Mono.mono (T := T) (Y := yact K) (r5.trans (r6.trans (r7.trans r8))) ya4)) ⟨lv.gd.nd, b, eb, fb⟩ H8 (Rp.refl _) _ fun v H9 r9 ev => ?_
    obtain rfl : v = V.bl true := ev
    exact kk H9 wd tr (r08.trans r9).rk (lv.rp (r08.trans r9))
end
end K20
namespace K20
open PySem PySem.Spec PyProof.Rows L2
section
variable {P : Program} {w : World} {K : Fg} {mg : Str → Option Value} {base : Heap} {T : List (Addr × Str)} {H H' H0 H1 : Hp} {σ : L2.St} {te ta tb : TE}
/-! ### a Deeds object that is new -/
/-- its dict of deeds, apart from m -/
def ByNe (E : Tp K mg w T base) (H : Hp) (p m : Addr) : Prop := ∃ dx fs b, H p = some (.ins E.C_Deeds dx fs) ∧ fs.lookup ("by_id" : Str) = some (.ref b) ∧ b ≠ m
theorem ByNe.rw_ {E : Tp K mg w T base} {p m : Addr} (r : Rw H H') (h : ByNe E H p m) : ByNe E H' p m := by
  obtain ⟨dx, fs, b, h1, h2, h3⟩ := h
  exact ⟨dx, fs, b, r.ins h1, h2, h3⟩
structure FreshD (E : Tp K mg w T base) (P : Program) (H0 H : Hp) (q : Addr) (M : List Deed) (k m : Addr) : Prop where
  ob : DObj E P H q M k m
  nb : ∃ dx fs b, H q = some (.ins E.C_Deeds dx fs) ∧ fs.lookup ("by_id" : Str) = some (.ref b) ∧ Nw H0 b ∧ b ≠ m
  nk : Nw H0 k
  nm : Nw H0 m
  ek : H k = some (.dK [])
  dm : DictAt K P w H m []
theorem FreshD.rp {E : Tp K mg w T base} {q : Addr} {M : List Deed} {k m : Addr} (r : Rp T H H') (h : FreshD E P H0 H q M k m) : FreshD E P H0 H' q M k m := by
  obtain ⟨dx, fs, b, h1, h2, h3⟩ := h.nb
  exact ⟨h.ob.rp r, ⟨dx, fs, b, r.ins h1, h2, h3⟩, h.nk, h.nm, r.keep _ _ h.ek (fun _ z => by cases z), h.dm.rp r⟩
def yFD (E : Tp K mg w T base) (P : Program) (H0 : Hp) (L : List Deed) : Hp → V → Unit → Prop := fun H v _ => ∃ q M k m, v = .ref q ∧ Good M ∧ M.Perm L ∧ FreshD E P H0 H q M k m
instance {E : Tp K mg w T base} {L : List Deed} : Mono T (yFD E P H0 L) := ⟨fun r ⟨q, M, k, m, e, g, p, f⟩ => ⟨q, M, k, m, e, g, p, f.rp r⟩⟩
/-- Deeds(S) -/
theorem ev_deeds {E : Tp K mg w T base} {S L : List Deed} (h : Ev T (yL (ydd K)) te σ H S) (hT : LamX.Tabs T H) (p : S.Perm L) (g : Good L) (hl : S.length ≤ 1000) : Ev T (yFD E P H L) (tMake E.C_Deeds (sp_init E P) [] E0 (tCons te tNil)) σ H () := fun H1 r1 Q q =>
  h H1 r1 _ fun v H2 r2 y x dx hx hdx hne => by
    have r12 := r1.trans r2
    have s1 : Rp T H2 (upd H2 dx (.own x)) := Rp.new hdx
    have hx1 : upd H2 dx (.own x) x = none := by rw [upd_ne (Ne.symm hne)]; exact hx
    have s2 : Rp T H2 (upd (upd H2 dx (.own x)) x (.ins E.C_Deeds dx [])) := s1.trans (Rp.new hx1)
    refine ⟨H2, x, dx, v, S, L, rfl, s2, Nw.of hx, r12.tabs hT, upd_same, y, p, g, hl, fun H' M k m r3 gM pM ob bn nk nm ek dm => ⟨rfl, ?_⟩⟩
    refine q _ H' (r2.trans r3) ⟨x, M, k, m, rfl, gM, pM, ob, ?_, r12.nw nk, r12.nw nm, ek, dm⟩
    obtain ⟨dx', b, t, u, ms, vs, h1, _⟩ := ob.ex
    obtain ⟨q1, q2⟩ := bn _ _ b h1 fl_by
    exact ⟨dx', _, b, h1, fl_by, r12.nw q1, q2⟩
/-! ### the parts that were looked at -/
structure Sub where
  c : List Int
  q : Addr
  M : List Deed
  k : Addr
  m : Addr
structure SubOk (E : Tp K mg w T base) (P : Program) (H : Hp) (m : Addr) (L : List Deed) (e : Sub) (wd tr : Option V) : Prop where
  lv : Liv E P H e.q e.M e.k e.m m wd tr
  pm : e.M.Perm (known L e.c)
  nb : ByNe E H e.q m
structure Past (E : Tp K mg w T base) (P : Program) (H : Hp) (p k m : Addr) (L : List Deed) (es : List Sub) : Prop where
  ob : DObj E P H p L k m
  nb : ByNe E H p m
  ek : H k = some (.dK [])
  dm : DictAt K P w H m (es.map fun e => (tI e.c, V.ref e.q))
  nd : (k :: es.map Sub.k).Nodup
  sb : ∀ e ∈ es, ∃ wd tr, SubOk E P H m L e wd tr
  gd : Good L
  len : L.length ≤ 1000
theorem Past.rp {E : Tp K mg w T base} {p k m : Addr} {L : List Deed} {es : List Sub} (r : Rp T H H') (x : Past E P H p k m L es) : Past E P H' p k m L es where
  ob := x.ob.rp r
  nb := x.nb.rw_ r.rw_
  ek := r.keep _ _ x.ek (fun _ z => by cases z)
  dm := x.dm.rp r
  nd := x.nd
  sb := fun e he => by
    obtain ⟨wd, tr, s⟩ := x.sb e he
    exact ⟨wd, tr, s.lv.rp r, s.pm, s.nb.rw_ r.rw_⟩
  gd := x.gd
  len := x.len
/-- what a dict of ours is, is nothing else -/
theorem DObj.chgM {E : Tp K mg w T base} {p k m m' : Addr} {L : List Deed} {kvs : List (D × V)} {o : HO} (x : DObj E P H p L k m') (n : ByNe E H p m) (d : DictAt K P w H m kvs) : DObj E P (upd H m o) p L k m' := by
  obtain ⟨dx, b, t, u, ms, vs, h1, ⟨a, kv, ea, da, la⟩, h3, h4, h5, h6⟩ := x.ex
  obtain ⟨dx', fs, b', g1, g2, g3⟩ := n
  rw [h1] at g1
  cases g1
  rw [fl_by] at g2
  cases g2
  cases ea
  have tk : Tk H (upd H m o) := d.tk
  refine ⟨dx, b, t, u, ms, vs, by rw [upd_ne (raw_ne d h1 ins_raw)]; exact h1, ⟨b, kv, rfl, da.other d g3, Paired.mapP la fun _ _ ⟨q1, q2⟩ => ⟨q1, Imm.imm (Y := ydd K) tk q2⟩⟩, h3, h4, by rw [upd_ne (raw_ne d h5 lst_raw)]; exact h5, Paired.mapP h6 fun _ _ y => Imm.imm (Y := yk K) tk y⟩
theorem WordsOk.chgM {v : V} {L : List Deed} {m : Addr} {kvs : List (D × V)} {o : HO} (h : WordsOk K H v L) (d : DictAt K P w H m kvs) : WordsOk K (upd H m o) v L := by
  obtain ⟨a, ob, ws, e, h1, h2, h3⟩ := h
  refine ⟨a, ob, ws, e, by rw [upd_ne (raw_ne d h1 (fun u z => by unfold RawO at z; cases z))]; exact h1, h2, fun z u q => ?_⟩
  obtain ⟨l, vs, e1, e2, e3⟩ := h3 z u q
  exact ⟨l, vs, e1, by rw [upd_ne (raw_ne d e2 lst_raw)]; exact e2, paired_imm d.tk e3⟩
theorem paired_ybl {m : Addr} {kvs : List (D × V)} {o : HO} (d : DictAt K P w H m kvs) {v : V} {b : List (List Int) × List (List Int)} (h : ybl K H v b) : ybl K (upd H m o) v b := by
  obtain ⟨a, x, y, e, s, ⟨a1, v1, e1, h1, l1⟩, a2, v2, e2, h2, l2⟩ := h
  exact ⟨a, x, y, e, d.tk K _ _ s, ⟨a1, v1, e1, by rw [upd_ne (raw_ne d h1 lst_raw)]; exact h1, paired_imm d.tk l1⟩, a2, v2, e2, by rw [upd_ne (raw_ne d h2 lst_raw)]; exact h2, paired_imm d.tk l2⟩
theorem TreesOk.chgM {E : Tp K mg w T base} {m : Addr} {v : V} {L : List Deed} {kvs : List (D × V)} {o : HO} (h : TreesOk E P m H v L) (d : DictAt K P w H m kvs) : TreesOk E P m (upd H m o) v L := by
  obtain ⟨q, dx, pa, bo, be, bms, e, h1, ⟨a1, k1, e1, d1, l1⟩, ⟨a2, k2, e2, d2, l2⟩, h4, h5, h6⟩ := h.ex
  cases e1
  cases e2
  exact ⟨q, dx, pa, bo, be, bms, e, by rw [upd_ne (raw_ne d h1 ins_raw)]; exact h1, ⟨pa, k1, rfl, d1.other d h5, Paired.mapP l1 fun _ _ ⟨q1, q2⟩ => ⟨q1, Imm.imm (Y := ypl K) d.tk q2⟩⟩,
    ⟨be, k2, rfl, d2.other d h6, Paired.mapP l2 fun _ _ ⟨q1, q2⟩ => ⟨q1, paired_ybl d q2⟩⟩, h4, h5, h6⟩
theorem KeptOk.chgM {E : Tp K mg w T base} {m k : Addr} {L : List Deed} {wd tr : Option V} {kvs : List (D × V)} {o : HO} (h : KeptOk E P m H k L wd tr) (d : DictAt K P w H m kvs) : KeptOk E P m (upd H m o) k L wd tr := by
  obtain ⟨kv, h1, h2, e1, e2, h3, h4⟩ := h.ex
  exact ⟨kv, by rw [upd_ne (raw_ne d h1 dK_raw)]; exact h1, h2, e1, e2, fun v e => (h3 v e).chgM d, fun v e => (h4 v e).chgM d⟩
theorem DictAt.rawO {m : Addr} {kvs : List (D × V)} (d : DictAt K P w H m kvs) : ∃ o, H m = some (RawO m o) := by
  obtain ⟨u, e, _⟩ := d.raw
  exact ⟨u, e⟩
theorem rawO_dK {d : Addr} {u : Obj} (l : List (Key × V)) : RawO d u ≠ HO.dK l := fun z => by unfold RawO at z; cases z
theorem Liv.chgM {E : Tp K mg w T base} {p k m m' : Addr} {L : List Deed} {wd tr : Option V} {kvs : List (D × V)} {ob : Obj} (x : Liv E P H p L k m' m wd tr) (n : ByNe E H p m) (d : DictAt K P w H m kvs) : Liv E P (upd H m (RawO m ob)) p L k m' m wd tr where
  ob := x.ob.chgM n d
  kp := x.kp.chgM d
  gd := x.gd
  len := x.len
  av := ⟨_, upd_same, fun ps => RawO.noTbl ps, fun l => rawO_dK l⟩
theorem ByNe.chgM {E : Tp K mg w T base} {p m : Addr} {kvs : List (D × V)} {o : HO} (n : ByNe E H p m) (d : DictAt K P w H m kvs) : ByNe E (upd H m o) p m := by
  obtain ⟨dx, fs, b, h1, h2, h3⟩ := n
  exact ⟨dx, fs, b, by rw [upd_ne (raw_ne d h1 ins_raw)]; exact h1, h2, h3⟩
/-- one more part -/
theorem Past.more {E : Tp K mg w T base} {p k m : Addr} {L : List Deed} {es : List Sub} {ob : Obj} (x : Past E P H p k m L es) (e : Sub) {wd tr : Option V} (s : SubOk E P H m L e wd tr) (n : e.k ∉ k :: es.map Sub.k) (d : DictAt K P w (upd H m (RawO m ob)) m ((es.map fun e => (tI e.c, V.ref e.q)) ++ [(tI e.c, V.ref e.q)])) :
    Past E P (upd H m (RawO m ob)) p k m L (es ++ [e]) where
  ob := x.ob.chgM x.nb x.dm
  nb := x.nb.chgM x.dm
  ek := by rw [upd_ne (raw_ne x.dm x.ek dK_raw)]; exact x.ek
  dm := by rw [List.map_append]; exact d
  nd := by
    rw [List.map_append, ← List.cons_append]
    refine List.nodup_append.mpr ⟨x.nd, by simp, fun a ha b hb z => n ?_⟩
    rw [List.map_singleton, List.mem_singleton] at hb
    rw [← hb, ← z]
    exact ha
  sb := fun e' he => by
    rcases List.mem_append.mp he with he | he
    · obtain ⟨wd, tr, s'⟩ := x.sb e' he
      exact ⟨wd, tr, s'.lv.chgM s'.nb x.dm, s'.pm, s'.nb.chgM x.dm⟩
    · rw [List.mem_singleton.mp he]
      exact ⟨wd, tr, s.lv.chgM s.nb x.dm, s.pm, s.nb.chgM x.dm⟩
  gd := x.gd
  len := x.len
theorem nd_injG {α β : Type} {f : α → β} : ∀ {l : List α}, (l.map f).Nodup → ∀ {a b : α}, a ∈ l → b ∈ l → f a = f b → a = b
  | [], _, _, _, h, _, _ => by cases h
  | x :: l, nd, a, b, ha, hb, e => by
    obtain ⟨n1, n2⟩ := List.nodup_cons.mp nd
    rcases List.mem_cons.mp ha with za | ha <;> rcases List.mem_cons.mp hb with zb | hb
    · rw [za, zb]
    · exact absurd (List.mem_map.mpr ⟨b, hb, by rw [← e, za]⟩) n1
    · exact absurd (List.mem_map.mpr ⟨a, ha, by rw [e, zb]⟩) n1
    · exact nd_injG n2 ha hb e
/-- one part's dict changes -/
theorem Past.rk {E : Tp K mg w T base} {p k m : Addr} {L : List Deed} {es : List Sub} {e : Sub} (x : Past E P H p k m L es) (he : e ∈ es) {wd tr : Option V} (r : Rk T e.k H H') (lv : Liv E P H' e.q e.M e.k e.m m wd tr) : Past E P H' p k m L es := by
  obtain ⟨wd0, tr0, s0⟩ := x.sb e he
  obtain ⟨l, hl⟩ := s0.lv.kp.dk
  have rw' := r.rw_ hl
  obtain ⟨n1, n2⟩ := List.nodup_cons.mp x.nd
  have hk : k ≠ e.k := fun z => n1 (by rw [z]; exact List.mem_map.mpr ⟨e, he, rfl⟩)
  refine ⟨x.ob.rw_ rw', x.nb.rw_ rw', r.keep _ _ hk x.ek (fun _ z => by cases z), rw'.dict x.dm, x.nd, fun e' he' => ?_, x.gd, x.len⟩
  obtain ⟨wd1, tr1, s1⟩ := x.sb e' he'
  by_cases z : e'.k = e.k
  · have ee : e' = e := nd_injG n2 he' he z
    subst ee
    exact ⟨wd, tr, lv, s0.pm, s0.nb.rw_ rw'⟩
  · obtain ⟨o, h1, h2, h3⟩ := s1.lv.av
    exact ⟨wd1, tr1, ⟨s1.lv.ob.rw_ rw', s1.lv.kp.rk r hl z, s1.lv.gd, s1.lv.len, o, rw' _ _ h1 h2 h3, h2, h3⟩, s1.pm, s1.nb.rw_ rw'⟩
theorem paired_self {kvs : List (D × V)} : Paired (fun (p q : D × V) => p.1 = q.1 ∧ yV H p.2 q.2) kvs kvs := by
  induction kvs with
  | nil => exact .nil
  | cons a t ih => exact .cons ⟨rfl, rfl⟩ ih
theorem val_sub {es : List Sub} {c : List Int} : (∀ v, valV (es.map fun e => (tI e.c, V.ref e.q)) (tI c) = some v → ∃ e ∈ es, e.c = c ∧ v = .ref e.q) ∧ (valV (es.map fun e => (tI e.c, V.ref e.q)) (tI c) = none → tI c ∉ (es.map fun e => (tI e.c, V.ref e.q)).map (·.1)) := by
  obtain ⟨h1, h2⟩ := lu_val (Z := yV) (H := fun _ => none) (paired_self (H := fun _ => none) (kvs := es.map fun e => (tI e.c, V.ref e.q))) (tI c)
  constructor
  · intro v hv
    rw [hv] at h2
    obtain ⟨g, hg⟩ := Option.isSome_iff_exists.mp h2.symm
    obtain ⟨v', e1, e2⟩ := h1 g hg
    rw [hv] at e1
    cases e1
    obtain rfl : v = g := e2
    obtain ⟨e, he, eq⟩ := List.mem_map.mp (lu_mem hg)
    exact ⟨e, he, tI_inj (Prod.ext_iff.mp eq).1, (Prod.ext_iff.mp eq).2.symm⟩
  · intro hv
    rw [hv] at h2
    refine lu_none.mp ?_
    cases q : lu (es.map fun e => (tI e.c, V.ref e.q)) (tI c) with
    | none => rfl
    | some g => rw [q] at h2; cases h2
theorem sc_Deeds_within : FnScope ["self", "clock", "one"] ["self", "clock"] (defScope s_Deeds_within) := ⟨rfl, rfl, rfl, by decide +kernel, rfl, by decide +kernel, by decide +kernel⟩
theorem bd_Deeds_within (E : Tp K mg w T base) : Binds K E.d_Deeds_within ["self", "clock"] [] := E.F_Deeds_within.bindsN fun _ _ _ _ _ _ us hl => match us, hl with | [_, _], _ => rfl
def sp_within (E : Tp K mg w T base) (P : Program) : Sp := fun vs H Q _ => ∃ (p k m : Addr) (L : List Deed) (es : List Sub) (cv : V) (c : List Int), vs = [.ref p, cv] ∧ LamX.Tabs T H ∧ Past E P H p k m L es ∧ yk K H cv c ∧ c.length = 4 ∧ Good (known L c) ∧ es.length ≤ 2000 ∧
  ∀ H' es' e, Rs T (· = m) H H' → Past E P H' p k m L es' → e ∈ es' → e.c = c → es'.length ≤ es.length + 1 → (∀ e' ∈ es', e' ∈ es ∨ Nw H e'.k) → Q (.ref e.q) H'
theorem ok_Deeds_within (E : Tp K mg w T base) : FnOk P w K mg base CX0 4 E.f_Deeds_within E.d_Deeds_within ["self", "clock"] (sp_within E P) := by
  refine E.F_Deeds_within.ok sc_Deeds_within (fun vs H Q Ex h => ?_) (fun cdv Ar outer s H vs Q Ex hr h => ⟨_, PSs.nox (pss_cons (ps_if (pt_cmpR (op_notinU (hu9 hr)) (pv 1) (pe_fld (pv 0) (by rfl)) (by rfl)) (pss_one (ps_asg (pe_make E.mk_Deeds (ok_Deeds___init__ (T := T) E) (hr.mono (by decide)) (by rfl) E.g_Deeds (bd_Deeds___init__ E) .nil pass0 (pa_cons (pe_lc (own := [("one", 2)]) (g := gName 2) rfl sc_Deeds_within.nd (pi_list (pe_fld (pv 0) (by rfl))) (blkOk_by (own := [("one", 2)]) (N := ["self", "clock", "one"]) (sc := defScope s_Deeds_within) (by decide +kernel)) (fun _ _ _ _ _ => (pg_name (i := 2) sc_Deeds_within.nd rfl (.inl rfl))) (fun _ _ _ _ _ => pts_one (pt_val (pe_call (ok_counts_id (T := T) E) (hr.mono (by decide)) (by rfl) E.g_counts_id E.F_counts_id.kp (bd_counts_id E) .nil pass0 (pa_cons (pv 1) (pa_cons (pv 2) pa_nil))))) (fun _ _ _ _ _ => (pe_ix (ix_anyK K P w (hu9 hr) (by rfl) (by rfl) (by rfl)) (pe_fldK K (pv 0) (by rfl) (by rfl)) (pv 2) (fun _ _ => by rfl)))) pa_nil)) (pg_sub (pe_fld (pv 0) (by rfl)) (pv 1) (set_k (hu9 hr))))) pss_nil) (pss_one (ps_ret (pe_ix (ix_any (hu9 hr)) (pe_fld (pv 0) (by rfl)) (pv 1) (fun _ _ => by rfl))))), ?_⟩)
  · obtain ⟨p, k, m, L, es, cv, c, rfl, _⟩ := h
    rfl
  obtain ⟨p, k, m, L, es, cv, c, rfl, hT, x, yc, c4, gk, hes, kk⟩ := h
  -- what is read at the end
  have fin : ∀ (En : Ends) (H1 : Hp) (es' : List Sub), (∀ e, e ∈ es' → e.c = c → En.rt (.ref e.q) H1) → Past E P H1 p k m L es' → yk K H1 cv c → (∃ e ∈ es', e.c = c) →
      tRet (tOp (rSub K P w) (tFld K (tVar 0) "parts") (tVar 1)) En (start ["self", "clock", "one"] [.ref p, cv]) H1 := fun En H1 es' kf x1 y1 ⟨e0, he0, ec0⟩ => by
    obtain ⟨dx, b, t, u, ms, vs, h1, _⟩ := x1.ob.ex
    refine ⟨.ref p, rfl, p, E.C_Deeds, dx, _, .ref m, rfl, h1, E.c_Deeds, E.n_Deeds_parts, fl_parts, cv, rfl, ?_⟩
    cases q : valV (es'.map fun e => (tI e.c, V.ref e.q)) (tI c) with
    | none => exact absurd (List.mem_map.mpr ⟨(tI e0.c, V.ref e0.q), List.mem_map.mpr ⟨e0, he0, rfl⟩, by rw [ec0]⟩) (val_sub.2 q)
    | some v =>
      obtain ⟨e, he, ec, ev⟩ := val_sub.1 v q
      refine .inr (.inr (.inl ⟨m, _, tI c, v, rfl, x1.dm, keyV_of y1 (keyI _), q, ?_⟩))
      rw [ev]
      exact kf e he ec
  obtain ⟨dx, b, t, u, ms, vs, h1, h2, h3, h4, h5, h6⟩ := x.ob.ex
  refine ⟨cv, rfl, .ref p, rfl, p, E.C_Deeds, dx, _, .ref m, rfl, h1, E.c_Deeds, E.n_Deeds_parts, fl_parts, ?_⟩
  refine .inl ⟨m, _, tI c, rfl, x.dm, keyV_of yc (keyI _), _, rfl, ?_⟩
  cases hv : valV (es.map fun e => (tI e.c, V.ref e.q)) (tI c) with
  | some v =>
    refine iteF ?_
    obtain ⟨e, he, ec, _⟩ := val_sub.1 v hv
    exact fin _ H es (fun e he ec => kk H es e (Rs.refl H) x he ec (Nat.le_succ _) (fun e' h => .inl h)) x yc ⟨e, he, ec⟩
  | none =>
    refine iteT ?_
    have fresh := val_sub.2 hv
    have d0 : ∀ H1 (σ' : L2.St), Rp T H H1 → σ'[0]? = some (some (.ref p)) → Ev T (yDo E P) (tVar 0) σ' H1 L := fun H1 σ' r e => ev_var e ⟨p, k, m, rfl, x.ob.rp r⟩
    have key : Ev T (yL (ydd K)) (tLc (iList K (tFld K (tVar 0) "turn")) (gName 2) (tTest (tCall (sp_counts_id K T) [] E0 (tCons (tVar 1) (tCons (tVar 2) tNil)))) (tOp (rSub K P w) (tFld K (tVar 0) "by_id") (tVar 2)) [2]) (start ["self", "clock", "one"] [.ref p, cv]) H (((L.filter (cnt c)).map id)) :=
      ev_lc (T := T) (Y := yid K) (Z := ydd K) (bs := L) (cnt c) id (evi_list (ev_turn (d0 H _ (Rp.refl _) rfl))) (fun y hy v H1 r1 yv => ?_) (fun y hy _ v H1 r1 yv => ev_byid (E := E) (d0 H1 _ r1 rfl) (ev_var (i := 2) rfl yv) hy) (fun _ => rfl) (Nat.le_trans x.len (by decide))
    · rw [List.map_id] at key
      have hkn : (known L c).length ≤ 1000 := Nat.le_trans (List.length_filter_le _ _) x.len
      refine s_setK (T := T) (Y := yFD E P H (known L c)) (b := ()) (key := tI c) (ev_deeds (E := E) key hT (List.Perm.refl _) gk hkn) (ev_fld (b := V.ref m) (ev_var (i := 0) (b := V.ref p) rfl rfl) h1 E.c_Deeds E.n_Deeds_parts fl_parts rfl) (ev_var (i := 1) rfl yc) (keyI _) x.dm (by rw [List.length_map]; exact Nat.lt_of_le_of_lt hes (by decide)) fun v H2 o r2 ⟨q, M, k', m', ev, gM, pM, f⟩ d2 d2' => ?_
      subst ev
      rw [putK_app fresh] at d2'
      have x2 := x.rp r2
      have lvq : Liv E P H2 q M k' m' m none none := ⟨f.ob, ⟨[], f.ek, Nat.le_refl _, rfl, rfl, fun v e => (by cases e), fun v e => (by cases e)⟩, gM, by rw [pM.length_eq]; exact hkn, (by
        obtain ⟨u, e⟩ := d2.rawO
        exact ⟨_, e, fun ps => RawO.noTbl ps, fun l => rawO_dK l⟩)⟩
      have nbq : ByNe E H2 q m := by
        obtain ⟨dx', fs', b', g1, g2, g3, _⟩ := f.nb
        refine ⟨dx', fs', b', g1, g2, fun z => ?_⟩
        obtain ⟨u, e⟩ := x.dm.rawO
        rw [← z] at e
        obtain ⟨ps, z2⟩ := g3 _ e
        exact RawO.noTbl ps z2
      have nk' : k' ∉ k :: es.map Sub.k := fun hm => by
        have has : ∃ l, H k' = some (.dK l) := by
          rcases List.mem_cons.mp hm with z | hm
          · rw [z]
            exact ⟨_, x.ek⟩
          · obtain ⟨e', he', z⟩ := List.mem_map.mp hm
            obtain ⟨wd, tr, s⟩ := x.sb e' he'
            rw [← z]
            exact s.lv.kp.dk
        obtain ⟨l, hl⟩ := has
        obtain ⟨ps, z2⟩ := f.nk _ hl
        cases z2
      have x3 := x2.more (ob := o) ⟨c, q, M, k', m'⟩ ⟨lvq, pM, nbq⟩ nk' d2'
      have rs : Rs T (· = m) H (upd H2 m (RawO m o)) := Rs.chgD r2.rs rfl d2
      have hin : (⟨c, q, M, k', m'⟩ : Sub) ∈ es ++ [⟨c, q, M, k', m'⟩] := List.mem_append.mpr (.inr (List.mem_singleton.mpr rfl))
      refine fin _ _ _ (fun e he ec => kk _ _ e rs x3 he ec (by rw [List.length_append]; exact Nat.le_refl _) (fun e' h => ?_)) x3 (Imm.imm (Y := yk K) (r2.tk.trans d2.tk) yc) ⟨_, hin, rfl⟩
      rcases List.mem_append.mp h with h | h
      · exact .inl h
      · rw [List.mem_singleton.mp h]
        exact .inr f.nk
    · have hy2 := x.gd.ok y hy
      refine et_B (ev_eq (ev_c2 (T := T) (Y := yB) (f := fun p => decide (ck p.1 (p.2.getD 0 0) ≥ p.2.getD 1 0)) (pre := fun p => p.1.length = 4 ∧ ∃ h n, Hand h ∧ p.2 = [h, n]) (Y1 := yk K) (Y2 := yk K) (a := c) (b := y.id) (E := E0) (ev_var (i := 1) rfl (Mono.mono (T := T) (Y := yk K) r1 yc)) (ev_var (i := 2) rfl yv) ⟨c4, y.h, y.n, hy2.hand, rfl⟩) ?_)
      rfl
end
end K20
namespace K20
open PySem PySem.Spec PyProof.Rows L2
theorem isBlock_ok {L : List Deed} (hd : ∀ x ∈ L, DeedOk x) {b : List Int} (h : IsBlock L b) : b = root ∨ IdOk b := by
  rcases h with h | ⟨y, hy, e, _⟩
  · exact .inl h
  · exact .inr ⟨y.h, y.n, (hd y hy).hand, (hd y hy).n1, e.symm⟩
theorem gap_sg {S : List Deed} (hd : ∀ x ∈ S, DeedOk x) {b : List Int} {l r : Option (List Int)} (h : Gap (ends (line S b)) l r) : (∀ s, l = some s → SgOk s) ∧ ∀ s, r = some s → SgOk s := by
  have go : ∀ s ∈ line S b, SgOk s := fun s hs => by
    obtain ⟨x, hx, l, r, m, k, _, _, e⟩ := mem_tree.mp (mem_line hs)
    exact ⟨x.h, x.n, (k : Int), (hd x hx).hand, (hd x hx).n1, Int.natCast_nonneg k, e⟩
  exact ⟨fun s e => go s ((gap_mem h).1 s e), fun s e => go s ((gap_mem h).2 s e)⟩
theorem Good.dok {L : List Deed} (g : Good L) {x : Deed} (hx : x ∈ L) : DOk x := by
  refine ⟨g.ok x hx, ?_⟩
  have f := g.fit x hx
  have hd : ∀ y ∈ known L x.seen, DeedOk y := fun y hy => g.ok y (known_sub hy)
  cases ha : x.act with
  | bk b =>
    rw [ha] at f
    exact isBlock_ok hd f
  | wr b l r m =>
    rw [ha] at f
    obtain ⟨f1, f2, f3, f4⟩ := f
    exact ⟨isBlock_ok hd f1, (gap_sg hd f2).1, (gap_sg hd f2).2, f3, f4⟩
section
variable {P : Program} {w : World} {K : Fg} {mg : Str → Option Value} {base : Heap} {T : List (Addr × Str)} {H H' H0 H1 : Hp} {σ : L2.St} {te ta tb : TE}
theorem Rs.tkM {m : Addr} {kvs : List (D × V)} (r : Rs T (· = m) H H') (d : DictAt K P w H m kvs) : Tk H H' := fun K' a xs h => by
  rcases h with (h | ⟨o, h⟩) | h
  · exact .inl (.inl (r.keep _ _ (raw_ne d h (fun u z => by unfold RawO at z; cases z)) h (fun _ z => by cases z)))
  · exact .inl (.inr ⟨o, r.keep _ _ (raw_ne d h (fun u z => by unfold RawO at z; cases z)) h (fun _ z => by cases z)⟩)
  · exact .inr h
theorem yk_ints (k : List Int) : (k.map fun i => i) = k := List.map_id k
theorem sc_made : FnScope ["value", "deeds", "past", "deed", "one"] ["value"] (defScope s_made) := ⟨rfl, rfl, rfl, by decide +kernel, rfl, by decide +kernel, by decide +kernel⟩
theorem bd_made (E : Tp K mg w T base) : Binds K E.d_made ["value"] [] := E.F_made.bindsN fun _ _ _ _ _ _ us hl => match us, hl with | [_], _ => rfl
def sp_made (E : Tp K mg w T base) (P : Program) : Sp := fun vs H Q _ => ∃ (v : V) (S L : List Deed), vs = [v] ∧ LamX.Tabs T H ∧ yLT K (ydd K) H v S ∧ S.Perm L ∧ Good L ∧ S.length ≤ 60 ∧
  ∀ H' q M k m es, Rp T H H' → Good M → M.Perm L → Past E P H' q k m M es → Nw H k → Nw H m → (∀ e ∈ es, Nw H e.k) → es.length ≤ 60 → Q (.ref q) H'
theorem ok_made (E : Tp K mg w T base) : FnOk P w K mg base CX0 11 E.f_made E.d_made ["value"] (sp_made E P) := by
  refine E.F_made.ok sc_made (fun vs H Q Ex h => ?_) (fun cdv Ar outer s H vs Q Ex hr h => ⟨_, PSs.nox (pss_cons (ps_if (PW.pt (pw_or (pt_not (pt_val (pe_callB call_isiT (by rfl) E.isinstance (by decide +kernel) (pa_cons (pv 0) (pa_cons (pe_tup (pa_cons (pe_bltn (v := .ty "list") (u := .type "list") (by rfl) E.list (by decide +kernel) rfl) (pa_cons (pe_bltn (v := .ty "tuple") (u := .type "tuple") (by rfl) E.tuple (by decide +kernel) rfl) pa_nil))) pa_nil))))) (pw_or1 (pt_not (pt_val (pe_callB (cr_all rfl) (by rfl) E.all (by decide +kernel) (pa_cons (pe_lc (own := [("one", 4)]) (g := gName 4) (tt := tYes) rfl sc_made.nd (pi_lt (pv 0)) (blkOk_by (own := [("one", 4)]) (N := ["value", "deeds", "past", "deed", "one"]) (sc := defScope s_made) (by decide +kernel)) (fun _ _ _ _ _ => (pg_name (i := 4) sc_made.nd rfl (.inl rfl))) (fun _ _ _ _ _ => pts_nil) (fun _ _ _ _ _ => (pe_call (ok_is_deed (T := T) E) (hr.mono (by decide)) (by rfl) E.g_is_deed E.F_is_deed.kp (bd_is_deed E) .nil pass0 (pa_cons (pv 4) pa_nil)))) pa_nil))))))) (pss_one (ps_ret pe_non)) pss_nil) (pss_cons (ps_set (i := 1) sc_made.nd rfl (.inl rfl) (pe_callTy call_list_of (by rfl) E.list (by decide +kernel) (pa_cons (pv 0) pa_nil))) (pss_cons (ps_if (PW.pt (pw_or (pt_cmpR (op_neK (hu64 hr)) (pe_callB call_lenU (by rfl) E.len (by decide +kernel) (pa_cons (pe_kset (own := [("deed", 3)]) (g := gName 3) (tt := tYes) (hu9 hr) rfl sc_made.nd (pi_list (pv 1)) (blkOk_by (own := [("deed", 3)]) (N := ["value", "deeds", "past", "deed", "one"]) (sc := defScope s_made) (by decide +kernel)) (fun _ _ _ _ _ => (pg_name (i := 3) sc_made.nd rfl (.inl rfl))) (fun _ _ _ _ _ => pts_nil) (fun _ _ _ _ _ => (pe_call (ok_id_of (T := T) E) (hr.mono (by decide)) (by rfl) E.g_id_of E.F_id_of.kp (bd_id_of E) .nil pass0 (pa_cons (pv 3) pa_nil)))) pa_nil)) (pe_callB call_lenU (by rfl) E.len (by decide +kernel) (pa_cons (pv 1) pa_nil)) (nomark _)) (pw_or1 (pt_not (pt_val (pe_call (ok_are_closed (T := T) E) (hr.mono (by decide)) (by rfl) E.g_are_closed E.F_are_closed.kp (bd_are_closed E) .nil pass0 (pa_cons (pv 1) pa_nil))))))) (pss_one (ps_ret pe_non)) pss_nil) (pss_cons (ps_set (i := 2) sc_made.nd rfl (.inl rfl) (pe_make E.mk_Deeds (ok_Deeds___init__ (T := T) E) (hr.mono (by decide)) (by rfl) E.g_Deeds (bd_Deeds___init__ E) .nil pass0 (pa_cons (pv 1) pa_nil))) (pss_cons (ps_for PassesOwn.never rfl (pi_tup (pe_meth0 (pv 2) E.c_Deeds E.m_Deeds_in_turn (ok_Deeds_in_turn (T := T) E) (hr.mono (by decide)) (bd_Deeds_in_turn E) .nil pass0)) (pg_name (i := 3) sc_made.nd rfl (.inl rfl)) (pss_one (ps_if (pt_not (pt_val (pe_call (ok_fits_past (T := T) E) (hr.mono (by decide)) (by rfl) E.g_fits_past E.F_fits_past.kp (bd_fits_past E) .nil pass0 (pa_cons (pe_meth (pv 2) E.c_Deeds E.m_Deeds_within (ok_Deeds_within (T := T) E) (hr.mono (by decide)) (bd_Deeds_within E) .nil pass0 (pa_cons (pe_ix (ix_any (hu9 hr)) (pv 3) pe_int (fun _ _ => by rfl)) pa_nil)) (pa_cons (pv 3) pa_nil))))) (pss_one (ps_ret pe_non)) pss_nil))) (pss_one (ps_ret (pv 2)))))))), ?_⟩)
  · obtain ⟨v, S, L, rfl, _⟩ := h
    rfl
  obtain ⟨v, S, L, rfl, hT, y, pS, g, hl, kk⟩ := h
  have big : ∀ {j : Nat}, j ≤ 60 → j ≤ sizeLine := fun h => Nat.le_trans h (by decide)
  have v0 : ∀ (H1 : Hp) (σ' : L2.St), Rp T H H1 → σ'[0]? = some (some v) → Ev T (yLT K (ydd K)) (tVar 0) σ' H1 S := fun H1 σ' r e => ev_var e (Mono.mono r y)
  have ndS : (S.map Deed.id).Nodup := (pS.map Deed.id).nodup_iff.mpr g.nd
  refine q_ifs (T := T) (c := false) (evT_eq (et_or (et_not (et_B (ev_isiLT (v0 H _ (Rp.refl _) rfl)))) fun _ => et_not (et_B (ev_all (ev_lm (T := T) (Y := ydd K) (Z := yB) (bs := S) (fun _ => true) (evi_lt (v0 H _ (Rp.refl _) rfl)) (fun x hx u H1 r1 yx => ev_c1 (a := x) (f := fun _ => true) (Y := yB) (ev_var (i := 4) rfl yx) (g.dok (pS.mem_iff.mp hx))) (fun _ => rfl) (big hl))))) ?_) (fun z => by cases z) fun _ H1 r1 => ?_
  · have e : (S.map fun _ => true).all id = true := List.all_eq_true.mpr fun b hb => by
      obtain ⟨_, _, e⟩ := List.mem_map.mp hb
      exact e.symm
    rw [e]
    rfl
  refine q_set (T := T) (Y := yL (ydd K)) (a := S) (ev_listLT (v0 H1 _ r1 rfl)) fun dv H2 r2 yd => ?_
  have r02 := r1.trans r2
  show tSeq _ _ _ ([some v, some dv, none, none, none] : L2.St) H2
  have d1 : ∀ (H3 : Hp) (σ' : L2.St), Rp T H2 H3 → σ'[1]? = some (some dv) → Ev T (yL (ydd K)) (tVar 1) σ' H3 S := fun H3 σ' r e => ev_var e (Mono.mono r yd)
  refine q_ifs (T := T) (c := false) (evT_eq (et_or (et_test (ev_neI (ev_leSn (ev_kset (T := T) (Y := ydd K) (bs := S) Deed.id (evi_list (d1 H2 _ (Rp.refl _) rfl)) (fun x hx u H3 r3 yx => ev_c1 (a := x) (f := Deed.id) (Y := yk K) (ev_var (i := 3) rfl yx) trivial) ndS (fun _ => rfl) hl)) (ev_leL (K := K) (P := P) (w := w) (d1 H2 _ (Rp.refl _) rfl)))) fun _ => et_not (et_B (ev_c1 (a := S) (f := fun _ => true) (Y := yB) (d1 H2 _ (Rp.refl _) rfl) ⟨L, pS, g, Nat.le_trans hl (by decide)⟩))) ?_) (fun z => by cases z) fun _ H3 r3 => ?_
  · rw [decide_eq_true rfl]
    rfl
  refine q_set (T := T) (Y := yFD E P H3 L) (a := ()) (ev_deeds (E := E) (d1 H3 _ r3 rfl) ((r02.trans r3).tabs hT) pS g (Nat.le_trans hl (by decide))) fun pv H4 r4 ⟨q, M, k, m, ep, gM, pM, f⟩ => ?_
  subst ep
  have r03 := r02.trans r3
  have r04 := r03.trans r4
  have nk0 : Nw H k := r03.nw f.nk
  have nm0 : Nw H m := r03.nw f.nm
  have hML : M.length ≤ 60 := by rw [pM.length_eq, ← pS.length_eq]; exact hl
  have past0 : Past E P H4 q k m M [] := ⟨f.ob, (by
    obtain ⟨dx', fs', b', g1, g2, _, g4⟩ := f.nb
    exact ⟨dx', fs', b', g1, g2, g4⟩), f.ek, f.dm, by simp, fun e he => (by cases he), gM, Nat.le_trans hML (by decide)⟩
  show tSeq _ _ _ ([some v, some dv, some (.ref q), none, none] : L2.St) H4
  refine s_forT (T := T) (Y := ydd K) (bs := M) (ev_eq (ev_m1 (T := T) (C := E.C_Deeds) (m := "in_turn") (Y := yT K (ydd K)) (Ex := E0) (f := id) (pre := fun L => L.length ≤ 1000) (Y1 := yDo E P) (a := M) (ev_var (i := 2) rfl ⟨q, k, m, rfl, f.ob⟩) (isDo (by decide +kernel)) (Nat.le_trans hML (by decide))) rfl) fun H5 r5 => ?_
  refine ⟨fun i σ' H' => Rp T H H' ∧ Tk H5 H' ∧ (∃ d e, σ' = [some v, some dv, some (.ref q), d, e]) ∧ ∃ es, Past E P H' q k m M es ∧ (∀ e ∈ es, Nw H e.k) ∧ es.length ≤ i, ?_, fun i σ' H' p => p.2.1, ?_, ?_⟩
  · exact ⟨r04.trans r5, Tk.refl _, ⟨none, none, rfl⟩, [], past0.rp r5, fun e he => (by cases he), Nat.le_refl _⟩
  · rintro i x σ' H' xv hi ⟨rI, tkI, ⟨d, e, eσ⟩, es, pa, nks, les⟩ yx
    subst eσ
    have hxM := List.mem_of_getElem? hi
    have il : i < M.length := (List.getElem?_eq_some_iff.mp hi).1
    show tIfS _ _ _ _ ([some v, some dv, some (.ref q), some xv, e] : L2.St) H'
    obtain ⟨dx, b, t, u, ms, vs, h1, _⟩ := pa.ob.ex
    refine ⟨.ref q, rfl, q, dx, _, rfl, h1, fl_no (by decide +kernel), ?_⟩
    refine ev_seen (K := K) (P := P) (w := w) (T := T) (x := x) (ev_var (i := 3) rfl yx) ev_int H' (Rp.refl _) _ fun sv H6 r6 ys => ?_
    refine ⟨q, k, m, M, es, sv, x.seen, rfl, (rI.trans r6).tabs hT, pa.rp r6, ys, (gM.ok x hxM).len, gM.seen hxM, by omega, fun H7 es' s rs pa7 hs es7 l7 nk7 => ?_⟩
    have tk7 : Tk H6 H7 := rs.tkM (pa.rp r6).dm
    have rI7 : Rp T H H7 := rs.rp (rI.trans r6) fun a z => by rw [z]; exact nm0
    obtain ⟨wd, tr, so⟩ := pa7.sb s hs
    have pm : s.M.Perm (known M x.seen) := by rw [← es7]; exact so.pm
    have yx7 : ydd K H7 xv x := Imm.imm (Y := ydd K) (r6.tk.trans tk7) yx
    have nks7 : ∀ e ∈ es', Nw H e.k := fun e he => by
      rcases nk7 e he with h | h
      · exact nks e h
      · exact (rI.trans r6).nw h
    have fx : FitsX s.M x.act := fits_congr (gM.seen hxM) so.lv.gd (fun y => pm.mem_iff.symm) (gM.fit x hxM)
    refine ⟨xv, rfl, s.q, s.k, s.m, m, s.M, wd, tr, xv, x, rfl, so.lv, yx7, fx, fun H8 wd' tr' rk lv8 => ?_⟩
    refine ⟨_, rfl, ?_⟩
    refine iteF ?_
    obtain ⟨lk, hlk⟩ := so.lv.kp.dk
    exact ⟨rk.rp rI7 (nks7 s hs), ((tkI.trans r6.tk).trans tk7).trans (rk.rw_ hlk).tk, ⟨_, _, rfl⟩, es', pa7.rk hs rk lv8, nks7, by omega⟩
  · rintro σ' H' ⟨rI, tkI, ⟨d, e, eσ⟩, es, pa, nks, les⟩
    subst eσ
    exact ⟨.ref q, rfl, kk H' q M k m es rI gM pM pa nk0 nm0 nks (by omega)⟩
theorem sc_need_history : FnScope ["history", "past"] ["history"] (defScope s_need_history) := ⟨rfl, rfl, rfl, by decide +kernel, rfl, by decide +kernel, by decide +kernel⟩
theorem bd_need_history (E : Tp K mg w T base) : Binds K E.d_need_history ["history"] [] := E.F_need_history.bindsN fun _ _ _ _ _ _ us hl => match us, hl with | [_], _ => rfl
theorem ok_need_history (E : Tp K mg w T base) : FnOk P w K mg base CX0 12 E.f_need_history E.d_need_history ["history"] (sp_made E P) := by
  refine E.F_need_history.ok sc_need_history (fun vs H Q Ex h => ?_) (fun cdv Ar outer s H vs Q Ex hr h => ⟨_, PSs.nox (pss_cons (ps_set (i := 1) sc_need_history.nd rfl (.inl rfl) (pe_call (ok_made (T := T) E) (hr.mono (by decide)) (by rfl) E.g_made E.F_made.kp (bd_made E) .nil pass0 (pa_cons (pv 0) pa_nil))) (pss_cons (ps_if (pt_cmp (pc_isN (pv 1)) rfl) (pss_one ps_never) pss_nil) (pss_one (ps_ret (pv 1))))), ?_⟩)
  · obtain ⟨v, S, L, rfl, _⟩ := h
    rfl
  obtain ⟨v, S, L, rfl, hT, y, pS, g, hl, kk⟩ := h
  refine ⟨v, rfl, v, S, L, rfl, hT, y, pS, g, hl, fun H' q M k m es r gM pM pa nk nm nks les => ?_⟩
  refine ⟨.ref q, rfl, ⟨_, rfl, iteF ?_⟩⟩
  exact ⟨.ref q, rfl, kk H' q M k m es r gM pM pa nk nm nks les⟩
theorem sc_part : FnScope ["history", "clock", "past"] ["history", "clock"] (defScope s_part) := ⟨rfl, rfl, rfl, by decide +kernel, rfl, by decide +kernel, by decide +kernel⟩
theorem bd_part (E : Tp K mg w T base) : Binds K E.d_part ["history", "clock"] [] := E.F_part.bindsN fun _ _ _ _ _ _ us hl => match us, hl with | [_, _], _ => rfl
/-- part(history, clock): the deeds that the clock counts -/
def sp_part (E : Tp K mg w T base) (P : Program) : Sp := fun vs H Q _ => ∃ (v cv : V) (S L : List Deed) (c : List Int), vs = [v, cv] ∧ LamX.Tabs T H ∧ yLT K (ydd K) H v S ∧ yk K H cv c ∧ S.Perm L ∧ Good L ∧ S.length ≤ 60 ∧ (∃ x ∈ L, c = x.seen) ∧
  ∀ H' u M, Rp T H H' → M.Perm (known L c) → Good M → yT K (ydd K) H' u M → Q u H'
theorem ok_part (E : Tp K mg w T base) : FnOk P w K mg base CX0 13 E.f_part E.d_part ["history", "clock"] (sp_part E P) := by
  refine E.F_part.ok sc_part (fun vs H Q Ex h => ?_) (fun cdv Ar outer s H vs Q Ex hr h => ⟨_, PSs.nox (pss_cons (ps_set (i := 2) sc_part.nd rfl (.inl rfl) (pe_call (ok_need_history (T := T) E) (hr.mono (by decide)) (by rfl) E.g_need_history E.F_need_history.kp (bd_need_history E) .nil pass0 (pa_cons (pv 0) pa_nil))) (pss_cons (ps_if (pt_not (pt_val (pe_meth (pv 2) E.c_Deeds E.m_Deeds_is_cut (ok_Deeds_is_cut (T := T) E) (hr.mono (by decide)) (bd_Deeds_is_cut E) .nil pass0 (pa_cons (pv 1) pa_nil)))) (pss_one ps_never) pss_nil) (pss_one (ps_ret (pe_meth0 (pe_meth (pv 2) E.c_Deeds E.m_Deeds_within (ok_Deeds_within (T := T) E) (hr.mono (by decide)) (bd_Deeds_within E) .nil pass0 (pa_cons (pv 1) pa_nil)) E.c_Deeds E.m_Deeds_in_turn (ok_Deeds_in_turn (T := T) E) (hr.mono (by decide)) (bd_Deeds_in_turn E) .nil pass0))))), ?_⟩)
  · obtain ⟨v, cv, S, L, c, rfl, _⟩ := h
    rfl
  obtain ⟨v, cv, S, L, c, rfl, hT, y, yc, pS, g, hl, ⟨x, hx, ec⟩, kk⟩ := h
  subst ec
  refine ⟨v, rfl, v, S, L, rfl, hT, y, pS, g, hl, fun H1 q M k m es r1 gM pM pa nk nm nks les => ?_⟩
  show tSeq _ _ _ ([some v, some cv, some (.ref q)] : L2.St) H1
  have hxM := pM.mem_iff.mpr hx
  have hML : M.length ≤ 60 := by rw [pM.length_eq, ← pS.length_eq]; exact hl
  refine q_ifs (T := T) (c := false) (evT_eq (et_not (et_B (ev_eq (ev_m2 (T := T) (C := E.C_Deeds) (m := "is_cut") (Y := yB) (Ex := E0) (f := fun _ => true) (pre := fun p => Good p.1 ∧ ∃ x ∈ p.1, p.2 = x.seen) (Y1 := yDo E P) (Y2 := yk K) (a := M) (b := x.seen) (ev_var (i := 2) rfl ⟨q, k, m, rfl, pa.ob⟩) (isDo (by decide +kernel)) (ev_var (i := 1) rfl (Mono.mono (T := T) (Y := yk K) r1 yc)) ⟨gM, x, hxM, rfl⟩) rfl))) rfl) (fun z => by cases z) fun _ H2 r2 => ?_
  have r02 := r1.trans r2
  have pa2 := pa.rp r2
  obtain ⟨dx, b, t, u, ms, vs, h1, _⟩ := pa2.ob.ex
  refine ⟨.ref q, rfl, q, dx, _, rfl, h1, fl_no (by decide +kernel), cv, rfl, q, k, m, M, es, cv, x.seen, rfl, r02.tabs hT, pa2, Mono.mono (T := T) (Y := yk K) r02 yc, (gM.ok x hxM).len, gM.seen hxM, by omega, fun H4 es' s rs pa4 hs ec l4 nk4 => ?_⟩
  obtain ⟨wd, tr, so⟩ := pa4.sb s hs
  have pm : s.M.Perm (known M x.seen) := by rw [← ec]; exact so.pm
  obtain ⟨dx', b', t', u', ms', vs', g1, _⟩ := so.lv.ob.ex
  have r04 : Rp T H H4 := rs.rp r02 fun a z => by rw [z]; exact nm
  refine ⟨s.q, dx', _, rfl, g1, fl_no (by decide +kernel), s.M, ⟨.ref s.q, rfl, s.q, s.k, s.m, rfl, so.lv.ob⟩, so.lv.len, fun u H5 r5 y5 => ?_⟩
  exact kk H5 u s.M (r04.trans r5) (pm.trans (pM.filter _)) so.lv.gd y5
end
end K20
namespace K20
open PySem PySem.Spec PyProof.Rows L2
section
variable {P : Program} {w : World} {K : Fg} {mg : Str → Option Value} {base : Heap} {T : List (Addr × Str)} {H H' H0 H1 : Hp} {σ : L2.St} {te ta tb : TE}
/-! ### errors with one field -/
def sp_xinit (C : Addr) (f : Str) : Sp := fun vs H Q _ => ∃ (a : Addr) (v : V), vs = [.ref a, v] ∧ H a = some (exo a C none) ∧ ∀ dx, H dx = none → dx ≠ a → Q .non (upd (upd H dx (exd dx [(f, v)])) a (exo a C (some dx)))
theorem xinit_len {C : Addr} {f : Str} {vs : List V} {H : Hp} {Q : VK} {E : XK} (h : sp_xinit C f vs H Q E) : vs.length = 2 := by
  obtain ⟨a, v, rfl, _⟩ := h
  rfl
theorem sc_NoBlock___init__ : FnScope ["self", "block"] ["self", "block"] (defScope s_NoBlock___init__) := ⟨rfl, rfl, rfl, by decide +kernel, rfl, by decide +kernel, by decide +kernel⟩
theorem bd_NoBlock___init__ (E : Tp K mg w T base) : Binds K E.d_NoBlock___init__ ["self", "block"] [] := E.F_NoBlock___init__.bindsN fun _ _ _ _ _ _ us hl => match us, hl with | [_, _], _ => rfl
theorem ok_NoBlock___init__ (E : Tp K mg w T base) : FnOk P w K mg base CX0 1 E.f_NoBlock___init__ E.d_NoBlock___init__ ["self", "block"] (sp_xinit E.C_NoBlock "block") := by
  refine E.F_NoBlock___init__.ok sc_NoBlock___init__ (fun vs H Q Ex h => xinit_len h) (fun cdv Ar outer s H vs Q Ex hr h => ⟨_, PSs.nox (pss_one (ps_ost (pv 0) (pv 1))), ?_⟩)
  obtain ⟨a, v, rfl, ha, k⟩ := h
  exact ⟨v, rfl, .ref a, rfl, a, E.C_NoBlock, rfl, E.x_NoBlock, E.n_NoBlock, .inl ⟨ha, fun dx h1 h2 => k dx h1 h2⟩⟩
theorem sc_NoSign___init__ : FnScope ["self", "sign"] ["self", "sign"] (defScope s_NoSign___init__) := ⟨rfl, rfl, rfl, by decide +kernel, rfl, by decide +kernel, by decide +kernel⟩
theorem bd_NoSign___init__ (E : Tp K mg w T base) : Binds K E.d_NoSign___init__ ["self", "sign"] [] := E.F_NoSign___init__.bindsN fun _ _ _ _ _ _ us hl => match us, hl with | [_, _], _ => rfl
theorem ok_NoSign___init__ (E : Tp K mg w T base) : FnOk P w K mg base CX0 1 E.f_NoSign___init__ E.d_NoSign___init__ ["self", "sign"] (sp_xinit E.C_NoSign "sign") := by
  refine E.F_NoSign___init__.ok sc_NoSign___init__ (fun vs H Q Ex h => xinit_len h) (fun cdv Ar outer s H vs Q Ex hr h => ⟨_, PSs.nox (pss_one (ps_ost (pv 0) (pv 1))), ?_⟩)
  obtain ⟨a, v, rfl, ha, k⟩ := h
  exact ⟨v, rfl, .ref a, rfl, a, E.C_NoSign, rfl, E.x_NoSign, E.n_NoSign, .inl ⟨ha, fun dx h1 h2 => k dx h1 h2⟩⟩
/-- the error that was made -/
theorem mk_x {C : Addr} {f : Str} {v : V} {Q : XK} (k : ∀ d, H d = none → Q (.ref C) (some d) (upd H d (.xd [(f, v)]))) : tMkO C (sp_xinit C f) [] (fun σ H Q => Q [v] H) σ H Q := by
  refine ⟨by show 1 ≤ 1000; decide, fun a ha => ⟨a, v, rfl, upd_same, fun dx h1 h2 => ⟨rfl, dx, [(f, v)], upd_same, by rw [upd_ne h2, upd_same], ?_, ?_⟩⟩⟩
  · rw [upd_ne h2] at h1
    exact h1
  · have hd : H dx = none := by rw [upd_ne h2] at h1; exact h1
    have e : upd (del (upd (upd (upd H a (exo a C none)) dx (exd dx [(f, v)])) a (exo a C (some dx))) a) dx (.xd [(f, v)]) = upd H dx (.xd [(f, v)]) := by
      funext b
      by_cases hb : b = dx
      · rw [hb, upd_same, upd_same]
      · rw [upd_ne hb, upd_ne hb]
        by_cases hba : b = a
        · rw [hba, del_same, ha]
        · rw [del_ne hba, upd_ne hba, upd_ne hb, upd_ne hba]
    rw [e]
    exact k dx hd
/-! ### rows from without -/
structure Told (K : Fg) (T : List (Addr × Str)) (H : Hp) (v : V) (S L : List Deed) : Prop where
  tb : LamX.Tabs T H
  y : yLT K (ydd K) H v S
  p : S.Perm L
  g : Good L
  len : S.length ≤ 60
theorem Told.rp {v : V} {S L : List Deed} (r : Rp T H H') (x : Told K T H v S L) : Told K T H' v S L := ⟨r.tabs x.tb, Mono.mono (T := T) r x.y, x.p, x.g, x.len⟩
theorem sc_block_looked_at : FnScope ["history", "block", "d"] ["history", "block"] (defScope s_block_looked_at) := ⟨rfl, rfl, rfl, by decide +kernel, rfl, by decide +kernel, by decide +kernel⟩
theorem bd_block_looked_at (E : Tp K mg w T base) : Binds K E.d_block_looked_at ["history", "block"] [] := E.F_block_looked_at.bindsN fun _ _ _ _ _ _ us hl => match us, hl with | [_, _], _ => rfl
def sp_blooked (E : Tp K mg w T base) (P : Program) : Sp := fun vs H Q Ex => ∃ (v bv : V) (S L : List Deed) (b : List Int), vs = [v, bv] ∧ Told K T H v S L ∧ yk K H bv b ∧
  (IsBlock L b → ∀ H' q M k m es, Rp T H H' → Good M → M.Perm L → Past E P H' q k m M es → Nw H k → Q (.ref q) H') ∧
  (¬ IsBlock L b → ∀ H' d, Rp T H H' → H' d = some (.xd [("block", bv)]) → Ex (.ref E.C_NoBlock) (some d) H')
theorem ok_block_looked_at (E : Tp K mg w T base) : FnOk P w K mg base (L2.CX P w) 13 E.f_block_looked_at E.d_block_looked_at ["history", "block"] (sp_blooked E P) := by
  refine E.F_block_looked_at.ok sc_block_looked_at (fun vs H Q Ex h => ?_) (fun cdv Ar outer s H vs Q Ex hr h => ⟨_, (pss_cons (ps_set (i := 2) sc_block_looked_at.nd rfl (.inl rfl) (pe_call (ok_need_history (T := T) E) (hr.mono (by decide)) (by rfl) E.g_need_history E.F_need_history.kp (bd_need_history E) .nil pass0 (pa_cons (pv 0) pa_nil))) (pss_cons (ps_if (pt_not (pt_val (pe_call (ok_is_block (T := T) E) (hr.mono (by decide)) (by rfl) E.g_is_block E.F_is_block.kp (bd_is_block E) .nil pass0 (pa_cons (pv 2) (pa_cons (pv 1) pa_nil))))) (pss_one (ps_raise rfl (takes_of rfl rfl rfl rfl) (pmk_oex E.x_NoBlock E.i_NoBlock E.ti_NoBlock (ok_NoBlock___init__ E) (hr.mono (by decide)) (bd_NoBlock___init__ E) .nil pass0 (by rfl) E.g_NoBlock (pa_cons (pv 1) pa_nil)))) pss_nil) (pss_one (ps_ret (pv 2))))), ?_⟩)
  · obtain ⟨v, bv, S, L, b, rfl, _⟩ := h
    rfl
  obtain ⟨v, bv, S, L, b, rfl, to, yb, k1, k2⟩ := h
  refine ⟨v, rfl, v, S, L, rfl, to.tb, to.y, to.p, to.g, to.len, fun H1 q M k m es r1 gM pM pa nk nm nks les => ?_⟩
  dsimp only [gName]
  have e : IsBlock M b ↔ IsBlock L b := isBlock_congr (fun x => pM.mem_iff) b
  refine q_ifs (T := T) (c := !IsBlockB M b) (et_not (et_B (ev_c2 (T := T) (Y := yB) (f := fun p => IsBlockB p.1 p.2) (pre := fun p => (p.1.map Deed.id).Nodup) (Y1 := yDo E P) (Y2 := yk K) (a := M) (b := b) (σ := [some v, some bv, some (.ref q)]) (E := E0) (ev_var (i := 2) rfl ⟨q, k, m, rfl, pa.ob⟩) (ev_var (i := 1) rfl (Mono.mono (T := T) (Y := yk K) r1 yb)) gM.nd))) (fun z H2 r2 => ?_) (fun z H2 r2 => ?_)
  · have nb : ¬ IsBlock L b := fun h => by rw [isBlockB.mpr (e.mpr h)] at z; cases z
    refine ⟨bv, rfl, mk_x (σ := []) (C := E.C_NoBlock) (f := "block") (v := bv) fun d hd => ?_⟩
    exact k2 nb _ d ((r1.trans r2).trans (Rp.new hd)) upd_same
  · have yb2 : IsBlock L b := e.mp (isBlockB.mp (by
      cases h : IsBlockB M b with
      | true => rfl
      | false => rw [h] at z; cases z))
    exact ⟨.ref q, rfl, k1 yb2 H2 q M k m es (r1.trans r2) gM pM (pa.rp r2) nk⟩
theorem Past.liv {E : Tp K mg w T base} {q k m : Addr} {M : List Deed} {es : List Sub} (x : Past E P H q k m M es) : Liv E P H q M k m q none none := by
  obtain ⟨dx, b, t, u, ms, vs, h1, _⟩ := x.ob.ex
  exact ⟨x.ob, ⟨[], x.ek, Nat.le_refl _, rfl, rfl, fun v e => (by cases e), fun v e => (by cases e)⟩, x.gd, x.len, _, h1, fun _ z => (by cases z), fun _ z => (by cases z)⟩
theorem sc_row_of : FnScope ["history", "block"] ["history", "block"] (defScope s_row_of) := ⟨rfl, rfl, rfl, by decide +kernel, rfl, by decide +kernel, by decide +kernel⟩
theorem bd_row_of (E : Tp K mg w T base) : Binds K E.d_row_of ["history", "block"] [] := E.F_row_of.bindsN fun _ _ _ _ _ _ us hl => match us, hl with | [_, _], _ => rfl
def sp_rowof (E : Tp K mg w T base) (P : Program) : Sp := fun vs H Q Ex => ∃ (v bv : V) (S L : List Deed) (b : List Int), vs = [v, bv] ∧ Told K T H v S L ∧ yk K H bv b ∧
  (IsBlock L b → ∀ H' u, Rp T H H' → yT K (yk K) H' u (line L b) → Q u H') ∧
  (¬ IsBlock L b → ∀ H' d, Rp T H H' → H' d = some (.xd [("block", bv)]) → Ex (.ref E.C_NoBlock) (some d) H')
theorem ok_row_of (E : Tp K mg w T base) : FnOk P w K mg base (L2.CX P w) 14 E.f_row_of E.d_row_of ["history", "block"] (sp_rowof E P) := by
  refine E.F_row_of.ok sc_row_of (fun vs H Q Ex h => ?_) (fun cdv Ar outer s H vs Q Ex hr h => ⟨_, (pss_one (ps_ret (pe_callTy call_tuple_of (by rfl) E.tuple (by decide +kernel) (pa_cons (pe_call (ok_row (T := T) E) (hr.mono (by decide)) (by rfl) E.g_row E.F_row.kp (bd_row E) .nil pass0 (pa_cons (pe_callS (ok_block_looked_at (T := T) E) (hr.mono (by decide)) (by rfl) E.g_block_looked_at E.F_block_looked_at.kp (bd_block_looked_at E) (fun σ => passAt (takes_of rfl rfl rfl rfl) σ) (pa_cons (pv 0) (pa_cons (pv 1) pa_nil))) (pa_cons (pv 1) pa_nil))) pa_nil)))), ?_⟩)
  · obtain ⟨v, bv, S, L, b, rfl, _⟩ := h
    rfl
  obtain ⟨v, bv, S, L, b, rfl, to, yb, k1, k2⟩ := h
  refine ⟨v, rfl, bv, rfl, v, bv, S, L, b, rfl, to, yb, fun ib H1 q M k m es r1 gM pM pa nk => ?_, fun nb H1 d r1 hd => k2 nb H1 d r1 hd⟩
  refine ⟨bv, rfl, q, k, m, q, M, none, none, bv, b, rfl, pa.liv, Mono.mono (T := T) (Y := yk K) r1 yb, (isBlock_congr (fun x => pM.mem_iff) b).mpr ib, fun u H2 wd tr rk lv yl => ?_⟩
  rw [line_congr gM to.g (fun x => pM.mem_iff) b] at yl
  obtain ⟨a, vs, e, ha, l⟩ := yl
  refine ⟨a, vs, by rw [e], .inl ⟨SqL.of ha, fun p hp => ?_⟩⟩
  have r3 : Rp T H2 (upd H2 p (.tup vs)) := Rp.new hp
  exact k1 ib _ _ ((rk.rp r1 nk).trans r3) ⟨p, vs, rfl, SqT.of upd_same, paired_mono r3 l⟩
theorem sc_open_row_signs : FnScope ["history", "block", "d", "gone", "sign"] ["history", "block"] (defScope s_open_row_signs) := ⟨rfl, rfl, rfl, by decide +kernel, rfl, by decide +kernel, by decide +kernel⟩
theorem bd_open_row_signs (E : Tp K mg w T base) : Binds K E.d_open_row_signs ["history", "block"] [] := E.F_open_row_signs.bindsN fun _ _ _ _ _ _ us hl => match us, hl with | [_, _], _ => rfl
theorem ok_open_row_signs (E : Tp K mg w T base) : FnOk P w K mg base (L2.CX P w) 14 E.f_open_row_signs E.d_open_row_signs ["history", "block"] (sp_rowof E P) := by
  refine E.F_open_row_signs.ok sc_open_row_signs (fun vs H Q Ex h => ?_) (fun cdv Ar outer s H vs Q Ex hr h => ⟨_, (pss_cons (ps_set (i := 2) sc_open_row_signs.nd rfl (.inl rfl) (pe_callS (ok_block_looked_at (T := T) E) (hr.mono (by decide)) (by rfl) E.g_block_looked_at E.F_block_looked_at.kp (bd_block_looked_at E) (fun σ => passAt (takes_of rfl rfl rfl rfl) σ) (pa_cons (pv 0) (pa_cons (pv 1) pa_nil)))) (pss_cons (ps_set (i := 3) sc_open_row_signs.nd rfl (.inr rfl) (pe_call (ok_passed (T := T) E) (hr.mono (by decide)) (by rfl) E.g_passed E.F_passed.kp (bd_passed E) .nil pass0 (pa_cons (pv 2) pa_nil))) (pss_one (ps_ret (pe_callTy call_tuple_of (by rfl) E.tuple (by decide +kernel) (pa_cons (pe_lc (own := [("sign", 4)]) (g := gName 4) rfl sc_open_row_signs.nd (pi_list (pe_call (ok_row (T := T) E) (hr.mono (by decide)) (by rfl) E.g_row E.F_row.kp (bd_row E) .nil pass0 (pa_cons (pv 2) (pa_cons (pv 1) pa_nil)))) (blkOk_by (own := [("sign", 4)]) (N := ["history", "block", "d", "gone", "sign"]) (sc := defScope s_open_row_signs) (by decide +kernel)) (fun _ _ _ _ _ => (pg_name (i := 4) sc_open_row_signs.nd rfl (.inl rfl))) (fun _ _ _ _ _ => pts_one (pt_cmpR (op_notinUK K P w (hu9 hr) (by rfl) (by rfl) (by rfl)) (pv 4) (pv 3) (by rfl))) (fun _ _ _ _ _ => (pv 4))) pa_nil)))))), ?_⟩)
  · obtain ⟨v, bv, S, L, b, rfl, _⟩ := h
    rfl
  obtain ⟨v, bv, S, L, b, rfl, to, yb, k1, k2⟩ := h
  refine ⟨v, rfl, bv, rfl, v, bv, S, L, b, rfl, to, yb, fun ib H1 q M k m es r1 gM pM pa nk => ?_, fun nb H1 d r1 hd => k2 nb H1 d r1 hd⟩
  have hML : M.length ≤ 60 := by rw [pM.length_eq, ← to.p.length_eq]; exact to.len
  refine ⟨.ref q, rfl, q, k, m, q, M, none, none, rfl, pa.liv, fun gv H2 wd1 rk1 x1 yg => ?_⟩
  have r2 := rk1.rp r1 nk
  refine ⟨.ref q, rfl, bv, rfl, q, k, m, q, M, wd1, none, bv, b, rfl, x1, Mono.mono (T := T) (Y := yk K) r2 yb, (isBlock_congr (fun x => pM.mem_iff) b).mpr ib, fun rv H3 wd2 tr2 rk2 x2 yr => ?_⟩
  obtain ⟨l1, hl1⟩ := x1.kp.dk
  have yg3 : yM K P w yV H3 gv [] := MonoW.mono (rk2.rw_ hl1) yg
  have key : Ev T (yT K (yk K)) (tCB (rTupS K) (tCons (tLc (iList K (tC rv)) (gName 4) (tTest (tOp (rInU K P w true) (tVar 4) (tVar 3))) (tVar 4) [4]) tNil)) [some v, some bv, some (.ref q), some gv, none] H3 (((line M b).filter fun _ => true).map id) :=
    ev_tuple (ev_lc (T := T) (Y := yk K) (Z := yk K) (bs := line M b) (fun _ => true) id (evi_list (ev_at yr)) (fun s hs u H3 r3 yu => evT_eq (et_test (ev_inK (K := K) (P := P) (w := w) (n := true) (ms := ([] : List (D × V))) (ev_kD (ev_var (i := 4) rfl yu)) (ev_var (i := 3) rfl (Mono.mono r3 yg3)) (keyI _))) rfl) (fun s hs _ u H3 r3 yu => ev_var (i := 4) rfl yu) (fun _ => rfl) (by
      unfold line
      rw [row_len (x2.gd.tb b)]
      exact Nat.le_trans (Nat.le_trans (tree_le x2.gd b) (ctree_3000 x2.gd x2.len)) (by decide)))
  rw [List.filter_eq_self.mpr (fun _ _ => rfl), List.map_id, line_congr gM to.g (fun x => pM.mem_iff) b] at key
  exact key H3 (Rp.refl _) _ fun u H4 r4 y4 => k1 ib H4 u ((rk2.rp r2 nk).trans r4) y4
def ypo (K : Fg) : Hp → V → Pl → Prop := fun H v p => yP K (yo K) yS H v (p.1, sideS p.2)
instance : Imm (ypo K) := ⟨fun r h => Imm.imm (Y := yP K (yo K) yS) r h⟩
theorem sc_parent_of : FnScope ["history", "sign", "trees", "over", "side"] ["history", "sign"] (defScope s_parent_of) := ⟨rfl, rfl, rfl, by decide +kernel, rfl, by decide +kernel, by decide +kernel⟩
theorem bd_parent_of (E : Tp K mg w T base) : Binds K E.d_parent_of ["history", "sign"] [] := E.F_parent_of.bindsN fun _ _ _ _ _ _ us hl => match us, hl with | [_, _], _ => rfl
def sp_parent (E : Tp K mg w T base) (P : Program) : Sp := fun vs H Q Ex => ∃ (v sv : V) (S L : List Deed) (s : List Int), vs = [v, sv] ∧ Told K T H v S L ∧ yk K H sv s ∧
  (∀ b pl, lu (tree L b) s = some pl → ∀ H' u, Rp T H H' → ypo K H' u pl → Q u H') ∧
  (s ∉ keysC (ctree L) → ∀ H' d, Rp T H H' → H' d = some (.xd [("sign", sv)]) → Ex (.ref E.C_NoSign) (some d) H')
theorem ok_parent_of (E : Tp K mg w T base) : FnOk P w K mg base (L2.CX P w) 13 E.f_parent_of E.d_parent_of ["history", "sign"] (sp_parent E P) := by
  refine E.F_parent_of.ok sc_parent_of (fun vs H Q Ex h => ?_) (fun cdv Ar outer s H vs Q Ex hr h => ⟨_, (pss_cons (ps_set (i := 2) sc_parent_of.nd rfl (.inl rfl) (pe_call (ok_trees_of (T := T) E) (hr.mono (by decide)) (by rfl) E.g_trees_of E.F_trees_of.kp (bd_trees_of E) .nil pass0 (pa_cons (pe_call (ok_need_history (T := T) E) (hr.mono (by decide)) (by rfl) E.g_need_history E.F_need_history.kp (bd_need_history E) .nil pass0 (pa_cons (pv 0) pa_nil)) pa_nil))) (pss_cons (ps_if (pt_cmpR (op_notinU (hu9 hr)) (pv 1) (pe_fld (pv 2) (by rfl)) (by rfl)) (pss_one (ps_raise rfl (takes_of rfl rfl rfl rfl) (pmk_oex E.x_NoSign E.i_NoSign E.ti_NoSign (ok_NoSign___init__ E) (hr.mono (by decide)) (bd_NoSign___init__ E) .nil pass0 (by rfl) E.g_NoSign (pa_cons (pv 1) pa_nil)))) pss_nil) (pss_cons (ps_asg (pe_ix (ix_any (hu9 hr)) (pe_fld (pv 2) (by rfl)) (pv 1) (fun _ _ => by rfl)) (pg_tup rfl (pgs_cons (pg_name (i := 3) sc_parent_of.nd rfl (.inl rfl)) (pgs_cons (pg_name (i := 4) sc_parent_of.nd rfl (.inl rfl)) pgs_nil)))) (pss_one (ps_ret (pe_tup (pa_cons (pe_ifExp (pt_cmpR (op_inU (hu9 hr)) (pv 3) (pe_fld (pv 2) (by rfl)) (by rfl)) (pv 3) pe_non) (pa_cons (pv 4) pa_nil)))))))), ?_⟩)
  · obtain ⟨v, sv, S, L, s, rfl, _⟩ := h
    rfl
  obtain ⟨v, sv, S, L, s, rfl, to, ys, k1, k2⟩ := h
  refine ⟨v, rfl, v, S, L, rfl, to.tb, to.y, to.p, to.g, to.len, fun H1 q M k m es r1 gM pM pa nk nm nks les => ?_⟩
  refine ⟨q, k, m, q, M, none, none, rfl, pa.liv, fun tv H2 wd rk lv yt => ?_⟩
  have r2 := rk.rp r1 nk
  dsimp only [gName]
  have s1 : ∀ (H3 : Hp) (σ' : L2.St), Rp T H2 H3 → σ'[1]? = some (some sv) → Ev T (yk K) (tVar 1) σ' H3 s := fun H3 σ' r e => ev_var e (Mono.mono (T := T) (Y := yk K) (r2.trans r) ys)
  have t2 : ∀ (H3 : Hp) (σ' : L2.St), Rp T H2 H3 → σ'[2]? = some (some tv) → Ev T (yTr E P) (tVar 2) σ' H3 (ctree M) := fun H3 σ' r e => ev_tf (E := E) (ev_var e (Mono.mono (T := T) (Y := yTf E P) r yt))
  have same : ∀ x, x ∈ M ↔ x ∈ L := fun x => pM.mem_iff
  by_cases hs : s ∈ keysC (ctree M)
  · obtain ⟨b, hb⟩ := mem_ctree.mp hs
    obtain ⟨pl, hpl⟩ := lu_some hb
    have hlC := gM.lift b s pl hpl
    have hbB := tree_block gM hb
    refine q_ifs (T := T) (c := false) (evT_eq (et_test (ev_inK (K := K) (P := P) (w := w) (n := true) (ev_kD (s1 H2 ([some v, some sv, some tv, none, none]) (Rp.refl _) rfl)) (ev_par (E := E) (t2 H2 ([some v, some sv, some tv, none, none]) (Rp.refl _) rfl)) (keyI _))) (by rw [lu_ptab, hlC]; rfl)) (fun z => by cases z) fun _ H3 r3 => ?_
    refine q_un2 (T := T) (Y := yk K) (Z := yS) (p := ((liftP b pl).1, sideS (liftP b pl).2)) (ev_plc (E := E) (t2 H3 ([some v, some sv, some tv, none, none]) r3 rfl) (s1 H3 _ r3 rfl) hlC) fun ov dv H4 r4 yo yd => ?_
    show tRet _ _ ([some v, some sv, some tv, some ov, some dv] : L2.St) H4
    have r34 := r3.trans r4
    have o3 : ∀ H5, Rp T H4 H5 → Ev T (yk K) (tVar 3) ([some v, some sv, some tv, some ov, some dv] : L2.St) H5 (pl.1.getD b) := fun H5 r => ev_var (i := 3) rfl (Mono.mono (T := T) (Y := yk K) r yo)
    have key : Ev T (K20.yo K) (tIf (tTest (tOp (rInU K P w false) (tVar 3) (tFld K (tVar 2) "parent"))) (tVar 3) (tC .non)) ([some v, some sv, some tv, some ov, some dv] : L2.St) H4 pl.1 := by
      refine ev_ifE (c := (lu (ctree M) (pl.1.getD b)).isSome) (evT_eq (et_test (ev_inK (K := K) (P := P) (w := w) (n := false) (ev_kD (o3 H4 (Rp.refl _))) (ev_par (E := E) (t2 H4 ([some v, some sv, some tv, some ov, some dv]) r34 rfl)) (keyI _))) (by rw [lu_ptab]; rfl)) (fun c => ?_) (fun c => ?_)
      · cases hp : pl.1 with
        | some p =>
          have z := o3 H4 (Rp.refl _)
          rw [hp] at z
          exact z
        | none =>
          rw [hp] at c
          have : lu (ctree M) b = none := luC_none (block_len hbB)
          rw [show (none : Option (List Int)).getD b = b from rfl, this] at c
          cases c
      · cases hp : pl.1 with
        | none => exact ev_nonD
        | some p =>
          rw [hp] at c
          have hk : p ∈ keysC (ctree M) := mem_ctree.mpr ⟨b, (gM.tb b).par s p pl.2 (by
            have z := lu_mem hpl
            rw [show pl = (pl.1, pl.2) from rfl, hp] at z
            exact z)⟩
          obtain ⟨g, hg⟩ := lu_some hk
          rw [show (some p).getD b = p from rfl, hg] at c
          cases c
    refine ev_pair (T := T) (K := K) (Y := K20.yo K) (Z := yS) (b := pl.1) (c := sideS pl.2) key (ev_var (i := 4) rfl yd) H4 (Rp.refl _) _ fun u H5 r5 y5 => ?_
    exact k1 b pl (by rw [← same_lu gM to.g same b s]; exact hpl) H5 u ((r2.trans r34).trans r5) y5
  · have hsL : s ∉ keysC (ctree L) := fun h => by
      obtain ⟨b, hb⟩ := mem_ctree.mp h
      exact hs (mem_ctree.mpr ⟨b, (same_keys gM to.g same b).mem_iff.mpr hb⟩)
    refine q_ifs (T := T) (c := true) (evT_eq (et_test (ev_inK (K := K) (P := P) (w := w) (n := true) (ev_kD (s1 H2 ([some v, some sv, some tv, none, none]) (Rp.refl _) rfl)) (ev_par (E := E) (t2 H2 ([some v, some sv, some tv, none, none]) (Rp.refl _) rfl)) (keyI _))) (by rw [lu_ptab, lu_none.mpr hs]; rfl)) (fun _ H3 r3 => ?_) (fun z => by cases z)
    refine ⟨sv, rfl, mk_x (σ := []) (C := E.C_NoSign) (f := "sign") (v := sv) fun d hd => ?_⟩
    exact k2 hsL _ d ((r2.trans r3).trans (Rp.new hd)) upd_same
end
end K20
namespace K20
open PySem PySem.Spec PyProof.Rows L2
theorem cut_two {α : Type} {l : List α} {j : Int} (h0 : 0 ≤ j) (h1 : j ≤ l.length) : cutL l none (some j) = l.take j.toNat ∧ cutL l (some j) none = l.drop j.toNat := by
  unfold cutL HT.sIx
  have e : min j.toNat l.length = j.toNat := Nat.min_eq_left (by omega)
  constructor
  · show (l.drop 0).take ((if j < 0 then (j + (l.length : Int)).toNat else min j.toNat l.length) - 0) = _
    rw [if_neg (by omega), e, Nat.sub_zero]
    rfl
  · show (l.drop (if j < 0 then (j + (l.length : Int)).toNat else min j.toNat l.length)).take (l.length - (if j < 0 then (j + (l.length : Int)).toNat else min j.toNat l.length)) = _
    rw [if_neg (by omega), e]
    exact List.take_of_length_le (by rw [List.length_drop]; exact Nat.le_refl _)
/-! ### the law's numbers -/
def drawF (r : List Int) (a lim : Int) : Int := (if a < r.length then r.getD a.toNat 0 else (((r.getD (a % r.length).toNat 0 * 40692 + a * 7919 + 3) % 2147483399) * 48271 + a) % 2147483647) % lim
theorem drawF_lt (r : List Int) (a : Int) {lim : Int} (h : 0 < lim) : 0 ≤ drawF r a lim ∧ drawF r a lim < lim := ⟨Int.emod_nonneg _ (by omega), Int.emod_lt_of_pos _ h⟩
def mixF (r : List Int) (a : Int) (L : List Deed) : Nat → List Deed
  | 0 => []
  | i + 1 => (mixF r a L i).take (drawF r (a + i) ((mixF r a L i).length + 1)).toNat ++ (L[i]?).toList ++ (mixF r a L i).drop (drawF r (a + i) ((mixF r a L i).length + 1)).toNat
theorem mixF_perm (r : List Int) (a : Int) (L : List Deed) : ∀ i, (mixF r a L i).Perm (L.take i)
  | 0 => by rw [List.take_zero]; exact .refl _
  | i + 1 => by
    have ih := mixF_perm r a L i
    unfold mixF
    generalize mixF r a L i = m at ih
    generalize (drawF r (a + i) (m.length + 1)).toNat = s
    rw [List.take_add_one]
    refine List.Perm.trans (List.Perm.append_right _ List.perm_append_comm) ?_
    rw [List.append_assoc, List.take_append_drop]
    exact List.perm_append_comm.trans (ih.append_right _)
def placesF (L : List Deed) : List (List Int) := root :: (L.filter (isW "block")).map Deed.id
theorem atI_getD {r : List Int} {i : Int} (h0 : 0 ≤ i) (h1 : i < r.length) : atI r i = some (r.getD i.toNat 0) := by
  have e : i = (i.toNat : Int) := by omega
  rw [e]
  refine atI_nat ?_
  rw [Int.toNat_natCast, List.getD_eq_getElem?_getD, List.getElem?_eq_getElem (by omega)]
  rfl
section
variable {P : Program} {w : World} {K : Fg} {mg : Str → Option Value} {base : Heap} {T : List (Addr × Str)} {H H' H0 H1 : Hp} {σ : L2.St} {te ta tb : TE}
theorem sc__law_id : FnScope ["_law_one"] ["_law_one"] (defScope s__law_id) := ⟨rfl, rfl, rfl, by decide +kernel, rfl, by decide +kernel, by decide +kernel⟩
theorem bd__law_id (E : Tp K mg w T base) : Binds K E.d__law_id ["_law_one"] [] := E.F__law_id.bindsN fun _ _ _ _ _ _ us hl => match us, hl with | [_], _ => rfl
def sp_law_id (K : Fg) (T : List (Addr × Str)) : Sp := PSp T (a1 (ydd K)) (fun _ => True) (yk K) Deed.id
theorem ok__law_id (E : Tp K mg w T base) : FnOk P w K mg base CX0 1 E.f__law_id E.d__law_id ["_law_one"] (sp_law_id K T) :=
  ok_rets E.F__law_id sc__law_id (fun _ _ _ h => len1 h) fun cdv Ar outer s H Ex hr => ⟨_, PSs.nox (pss_one (ps_ret (pe_tup (pa_cons (pe_ix (ix_any (hu9 hr)) (pv 0) pe_int (fun _ _ => by rfl)) (pa_cons (pe_ix (ix_any (hu9 hr)) (pv 0) pe_int (fun _ _ => by rfl)) pa_nil))))), fun vs x ⟨v, e, y⟩ _ => by
    subst e
    have hx : Ev T (ydd K) (tVar 0) (start ["_law_one"] [v]) H x := ev_var rfl y
    exact rt_ret (ev_tupk (k := x.id) (eds_cons (ev_h (K := K) (P := P) (w := w) hx ev_int) (eds_cons (ev_n (K := K) (P := P) (w := w) hx ev_int) eds_nil)) (by show 2 ≤ sizeLine; decide))⟩
theorem sc__law_known : FnScope ["_law_deeds", "_law_seen", "_law_one"] ["_law_deeds", "_law_seen"] (defScope s__law_known) := ⟨rfl, rfl, rfl, by decide +kernel, rfl, by decide +kernel, by decide +kernel⟩
theorem bd__law_known (E : Tp K mg w T base) : Binds K E.d__law_known ["_law_deeds", "_law_seen"] [] := E.F__law_known.bindsN fun _ _ _ _ _ _ us hl => match us, hl with | [_, _], _ => rfl
def sp_law_known (K : Fg) (T : List (Addr × Str)) : Sp := PSp T (a2 (yL (ydd K)) (yk K)) (fun p => p.2.length = 4 ∧ (∀ x ∈ p.1, Hand x.h) ∧ p.1.length ≤ 60) (yL (ydd K)) fun p => known p.1 p.2
theorem ok__law_known (E : Tp K mg w T base) : FnOk P w K mg base CX0 1 E.f__law_known E.d__law_known ["_law_deeds", "_law_seen"] (sp_law_known K T) :=
  ok_rets E.F__law_known sc__law_known (fun _ _ _ h => len2 h) fun cdv Ar outer s H Ex hr => ⟨_, PSs.nox (pss_one (ps_ret (pe_lc (own := [("_law_one", 2)]) (g := gName 2) rfl sc__law_known.nd (pi_list (pv 0)) (blkOk_by (own := [("_law_one", 2)]) (N := ["_law_deeds", "_law_seen", "_law_one"]) (sc := defScope s__law_known) (by decide +kernel)) (fun _ _ _ _ _ => (pg_name (i := 2) sc__law_known.nd rfl (.inl rfl))) (fun _ _ _ _ _ => pts_one (pt_cmpR op_le (pe_ix (ix_anyK K P w (hu9 hr) (by rfl) (by rfl) (by rfl)) (pv 2) pe_int (fun _ _ => by rfl)) (pe_ix (ix_anyK K P w (hu9 hr) (by rfl) (by rfl) (by rfl)) (pv 1) (pe_op op_sub (pe_ix (ix_anyK K P w (hu9 hr) (by rfl) (by rfl) (by rfl)) (pv 2) pe_int (fun _ _ => by rfl)) pe_int) (fun _ _ => by rfl)) (nomark _))) (fun _ _ _ _ _ => (pv 2))))), fun vs p ⟨v, u, e, y, z⟩ ⟨h4, hh, hl⟩ => by
    subst e
    obtain ⟨L, c⟩ := p
    have y : yL (ydd K) H v L := y
    have z : yk K H u c := z
    refine rt_retE (ev_lc (T := T) (Y := ydd K) (Z := ydd K) (bs := L) (cnt c) id (evi_list (ev_var rfl y)) (fun x hx o H1 r1 yx => ?_) (fun x hx _ o H1 r1 yx => ev_var (i := 2) rfl yx) (fun _ => rfl) (Nat.le_trans hl (by decide))) (List.map_id _)
    have vx : Ev T (ydd K) (tVar 2) [some v, some u, some o] H1 x := ev_var (i := 2) rfl yx
    exact et_test (ev_cmp (ev_n (K := K) (P := P) (w := w) vx ev_int) (ev_suk (K := K) (P := P) (w := w) (ev_var (i := 1) rfl (Mono.mono (T := T) (Y := yk K) r1 z)) (ev_sub (ev_h (K := K) (P := P) (w := w) vx ev_int) ev_int) (ck_at h4 (hh x hx))))⟩
theorem sc__law_both : FnScope ["_law_one", "_law_other", "_law_k"] ["_law_one", "_law_other"] (defScope s__law_both) := ⟨rfl, rfl, rfl, by decide +kernel, rfl, by decide +kernel, by decide +kernel⟩
theorem bd__law_both (E : Tp K mg w T base) : Binds K E.d__law_both ["_law_one", "_law_other"] [] := E.F__law_both.bindsN fun _ _ _ _ _ _ us hl => match us, hl with | [_, _], _ => rfl
def sp_law_both (K : Fg) (T : List (Addr × Str)) : Sp := PSp T (a2 (yk K) (yk K)) (fun p => p.1.length = 4 ∧ p.2.length = 4) (yk K) fun p => bothC p.1 p.2
theorem ok__law_both (E : Tp K mg w T base) : FnOk P w K mg base CX0 1 E.f__law_both E.d__law_both ["_law_one", "_law_other"] (sp_law_both K T) :=
  ok_rets E.F__law_both sc__law_both (fun _ _ _ h => len2 h) fun cdv Ar outer s H Ex hr => ⟨_, PSs.nox (pss_one (ps_ret (pe_callTy call_tuple_of (by rfl) E.tuple (by decide +kernel) (pa_cons (pe_lc (own := [("_law_k", 2)]) (g := gName 2) (tt := tYes) rfl sc__law_both.nd (pi_range1 (by rfl) E.range (pa_cons pe_int pa_nil)) (blkOk_by (own := [("_law_k", 2)]) (N := ["_law_one", "_law_other", "_law_k"]) (sc := defScope s__law_both) (by decide +kernel)) (fun _ _ _ _ _ => (pg_name (i := 2) sc__law_both.nd rfl (.inl rfl))) (fun _ _ _ _ _ => pts_nil) (fun _ _ _ _ _ => (pe_callB (call_max2 rfl) (by rfl) E.max (by decide +kernel) (pa_cons (pe_ix (ix_anyK K P w (hu9 hr) (by rfl) (by rfl) (by rfl)) (pv 0) (pv 2) (fun _ _ => by rfl)) (pa_cons (pe_ix (ix_anyK K P w (hu9 hr) (by rfl) (by rfl) (by rfl)) (pv 1) (pv 2) (fun _ _ => by rfl)) pa_nil))))) pa_nil)))), fun vs p ⟨v, u, e, y, z⟩ ⟨h1, h2⟩ => by
    subst e
    obtain ⟨c, d⟩ := p
    have y : yk K H v c := y
    have z : yk K H u d := z
    have h1 : c.length = 4 := h1
    have h2 : d.length = 4 := h2
    refine rt_retE (ev_Tk (ev_tuple (ev_lm (T := T) (Y := yI) (Z := yI) (bs := (List.range 4).map fun (i : Nat) => (i : Int)) (fun i => if d.getD i.toNat 0 > c.getD i.toNat 0 then d.getD i.toNat 0 else c.getD i.toNat 0) (evi_range (n := 4) (ea_int ev_int) (by decide) (by decide)) (fun i hi o H1 r1 e => ?_) (fun _ => rfl) (by rw [List.length_map, List.length_range]; decide)))) ?_
    · obtain rfl : o = V.int i := e
      obtain ⟨j, hj, ej⟩ := List.mem_map.mp hi
      have hj := List.mem_range.mp hj
      exact ev_max2 rfl (ev_suk (K := K) (P := P) (w := w) (ev_var (i := 0) rfl (Mono.mono (T := T) (Y := yk K) r1 y)) (ev_var (i := 2) rfl rfl) (atI_getD (by omega) (by omega))) (ev_suk (K := K) (P := P) (w := w) (ev_var (i := 1) rfl (Mono.mono (T := T) (Y := yk K) r1 z)) (ev_var (i := 2) rfl rfl) (atI_getD (by omega) (by omega)))
    · rw [List.map_map]
      rfl⟩
theorem sc__law_places : FnScope ["_law_deeds", "_law_one"] ["_law_deeds"] (defScope s__law_places) := ⟨rfl, rfl, rfl, by decide +kernel, rfl, by decide +kernel, by decide +kernel⟩
theorem bd__law_places (E : Tp K mg w T base) : Binds K E.d__law_places ["_law_deeds"] [] := E.F__law_places.bindsN fun _ _ _ _ _ _ us hl => match us, hl with | [_], _ => rfl
def sp_law_places (K : Fg) (T : List (Addr × Str)) : Sp := PSp T (a1 (yL (ydd K))) (fun L => L.length ≤ 60) (yL (yk K)) placesF
theorem ok__law_places (E : Tp K mg w T base) : FnOk P w K mg base CX0 2 E.f__law_places E.d__law_places ["_law_deeds"] (sp_law_places K T) :=
  ok_rets E.F__law_places sc__law_places (fun _ _ _ h => len1 h) fun cdv Ar outer s H Ex hr => ⟨_, PSs.nox (pss_one (ps_ret (pe_op op_plus (pe_lst (pa_cons (pe_tup (pa_cons pe_int (pa_cons pe_int pa_nil))) pa_nil)) (pe_lc (own := [("_law_one", 1)]) (g := gName 1) rfl sc__law_places.nd (pi_list (pv 0)) (blkOk_by (own := [("_law_one", 1)]) (N := ["_law_deeds", "_law_one"]) (sc := defScope s__law_places) (by decide +kernel)) (fun _ _ _ _ _ => (pg_name (i := 1) sc__law_places.nd rfl (.inl rfl))) (fun _ _ _ _ _ => pts_one (pt_cmpR (op_eqKK K (hu64 hr) (by rfl)) (pe_ix (ix_anyK K P w (hu9 hr) (by rfl) (by rfl) (by rfl)) (pe_ix (ix_anyK K P w (hu9 hr) (by rfl) (by rfl) (by rfl)) (pv 1) pe_int (fun _ _ => by rfl)) pe_int (fun _ _ => by rfl)) pe_str (nomark _))) (fun _ _ _ _ _ => (pe_call (ok__law_id (T := T) E) (hr.mono (by decide)) (by rfl) E.g__law_id E.F__law_id.kp (bd__law_id E) .nil pass0 (pa_cons (pv 1) pa_nil))))))), fun vs L ⟨v, e, y⟩ hl => by
    subst e
    have hf : (L.filter (isW "block")).length ≤ 60 := Nat.le_trans (List.length_filter_le _ _) hl
    refine rt_retE (ev_plL (T := T) (K := K) (Y := yk K) (bs := [root]) (cs := (L.filter (isW "block")).map Deed.id) (ev_lst (eds_cons (ev_tupk (k := root) (eds_cons ev_int (eds_cons ev_int eds_nil)) (by show 2 ≤ sizeLine; decide)) eds_nil) (by show 1 ≤ sizeLine; decide)) (ev_lc (T := T) (Y := ydd K) (Z := yk K) (bs := L) (isW "block") Deed.id (evi_list (ev_var rfl y)) (fun x hx o H1 r1 yx => ?_) (fun x hx _ o H1 r1 yx => ev_c1 (a := x) (f := Deed.id) (Y := yk K) (ev_var (i := 1) rfl yx) trivial) (fun _ => rfl) (Nat.le_trans hl (by decide))) (by rw [List.length_map]; exact Nat.le_trans (Nat.add_le_add_left hf _) (by decide))) rfl
    exact et_test (ev_eqT (ev_word (K := K) (P := P) (w := w) (a := x.act) (ev_act (K := K) (P := P) (w := w) (x := x) (ev_var (i := 1) rfl yx) ev_int) ev_int) ev_str (word_ok _) (by decide +kernel))⟩
theorem sc__law_draw : FnScope ["_law_row_here", "_law_at", "_law_limit", "_law_mixed_here"] ["_law_row_here", "_law_at", "_law_limit"] (defScope s__law_draw) := ⟨rfl, rfl, rfl, by decide +kernel, rfl, by decide +kernel, by decide +kernel⟩
theorem bd__law_draw (E : Tp K mg w T base) : Binds K E.d__law_draw ["_law_row_here", "_law_at", "_law_limit"] [] := E.F__law_draw.bindsN fun _ _ _ _ _ _ us hl => match us, hl with | [_, _, _], _ => rfl
def sp_law_draw (K : Fg) (T : List (Addr × Str)) : Sp := PSp T (a3 (yL yI) yI yI) (fun p => p.1 ≠ [] ∧ 0 ≤ p.2.1 ∧ 0 < p.2.2) yI fun p => drawF p.1 p.2.1 p.2.2
theorem ok__law_draw (E : Tp K mg w T base) : FnOk P w K mg base CX0 1 E.f__law_draw E.d__law_draw ["_law_row_here", "_law_at", "_law_limit"] (sp_law_draw K T) :=
  ok_rets E.F__law_draw sc__law_draw (fun _ _ _ h => len3 h) fun cdv Ar outer s H Ex hr => ⟨_, PSs.nox (pss_cons (ps_if (pt_cmpR op_lt (pv 1) (pe_callB call_lenU (by rfl) E.len (by decide +kernel) (pa_cons (pv 0) pa_nil)) (nomark _)) (pss_one (ps_ret (pe_op op_mod (pe_callTy call_int1 (by rfl) E.int (by decide +kernel) (pa_cons (pe_ix (ix_any (hu9 hr)) (pv 0) (pv 1) (fun _ _ => by rfl)) pa_nil)) (pv 2)))) pss_nil) (pss_cons (ps_set (i := 3) sc__law_draw.nd rfl (.inl rfl) (pe_op op_mod (pe_callTy call_int1 (by rfl) E.int (by decide +kernel) (pa_cons (pe_op op_plus (pe_op op_plus (pe_op op_mulX (pe_ix (ix_any (hu9 hr)) (pv 0) (pe_op op_mod (pe_callTy call_int1 (by rfl) E.int (by decide +kernel) (pa_cons (pv 1) pa_nil)) (pe_callB call_lenU (by rfl) E.len (by decide +kernel) (pa_cons (pv 0) pa_nil))) (fun _ _ => by rfl)) pe_int) (pe_op op_mulX (pv 1) pe_int)) pe_int) pa_nil)) pe_int)) (pss_one (ps_ret (pe_op op_mod (pe_callTy call_int1 (by rfl) E.int (by decide +kernel) (pa_cons (pe_op op_mod (pe_callTy call_int1 (by rfl) E.int (by decide +kernel) (pa_cons (pe_op op_plus (pe_op op_mulX (pv 3) pe_int) (pv 1)) pa_nil)) pe_int) pa_nil)) (pv 2)))))), fun vs p ⟨v, u, z, e, y1, y2, y3⟩ ⟨hr0, ha, hlim⟩ => by
    subst e
    obtain ⟨r, a, lim⟩ := p
    have y1 : yL yI H v r := y1
    obtain rfl : u = V.int a := y2
    obtain rfl : z = V.int lim := y3
    have hr0 : r ≠ [] := hr0
    have ha : 0 ≤ a := ha
    have hlim : 0 < lim := hlim
    have hrl : 0 < (r.length : Int) := by
      cases r with
      | nil => exact absurd rfl hr0
      | cons x t => rw [List.length_cons]; omega
    have vr : ∀ (H1 : Hp) (σ' : L2.St), Rp T H H1 → σ'[0]? = some (some v) → Ev T (yL yI) (tVar 0) σ' H1 r := fun H1 σ' q e => ev_var e (Mono.mono q y1)
    refine rt_ifs (c := decide (a < r.length)) (et_test (ev_cmp (ev_var (i := 1) (Y := yI) (b := a) rfl rfl) (ev_leL (K := K) (P := P) (w := w) (vr H _ (Rp.refl _) rfl)))) (fun c => ?_) (fun c => ?_)
    · have c := of_decide_eq_true c
      refine rt_retS (ev_eq (ev_mod (ev_toI rfl (ev_suL (Y := yI) (P := P) (w := w) (vr H _ (Rp.refl _) rfl) (ev_var (i := 1) (Y := yI) (b := a) rfl rfl) (atI_getD ha c))) (ev_var (i := 2) (Y := yI) (b := lim) rfl rfl) hlim) ?_)
      show _ = drawF r a lim
      unfold drawF
      rw [if_pos c]
    · have c := of_decide_eq_false c
      have hm0 : 0 ≤ a % r.length := Int.emod_nonneg _ (by omega)
      have hm1 : a % r.length < r.length := Int.emod_lt_of_pos _ hrl
      refine rt_set (Y1 := yI) (ev_mod (ev_toI rfl (ev_pl (ev_pl (ev_mul (ev_suL (Y := yI) (P := P) (w := w) (vr H _ (Rp.refl _) rfl) (ev_mod (ev_toI rfl (ev_var (i := 1) (Y := yI) (b := a) rfl rfl)) (ev_leL (K := K) (P := P) (w := w) (vr H _ (Rp.refl _) rfl)) hrl) (atI_getD hm0 hm1)) ev_int (small_mul (by decide +kernel))) (ev_mul (ev_var (i := 1) (Y := yI) (b := a) rfl rfl) ev_int (small_mul (by decide +kernel)))) ev_int)) ev_int (by decide)) fun o H1 r1 eo => ?_
      subst eo
      refine rt_ret (ev_eq (ev_mod (ev_toI rfl (ev_mod (ev_toI rfl (ev_pl (ev_mul (ev_var (i := 3) (Y := yI) rfl rfl) ev_int (small_mul (by decide +kernel))) (ev_var (i := 1) (Y := yI) (b := a) rfl rfl))) ev_int (by decide))) (ev_var (i := 2) (Y := yI) (b := lim) rfl rfl) hlim) ?_)
      show _ = drawF r a lim
      unfold drawF
      rw [if_neg c]⟩
theorem sc__law_mixed : FnScope ["_law_row_here", "_law_at", "_law_deeds", "_law_made", "_law_k", "_law_spot"] ["_law_row_here", "_law_at", "_law_deeds"] (defScope s__law_mixed) := ⟨rfl, rfl, rfl, by decide +kernel, rfl, by decide +kernel, by decide +kernel⟩
theorem bd__law_mixed (E : Tp K mg w T base) : Binds K E.d__law_mixed ["_law_row_here", "_law_at", "_law_deeds"] [] := E.F__law_mixed.bindsN fun _ _ _ _ _ _ us hl => match us, hl with | [_, _, _], _ => rfl
def sp_law_mixed (K : Fg) (T : List (Addr × Str)) : Sp := PSp T (a3 (yL yI) yI (yL (ydd K))) (fun p => p.1 ≠ [] ∧ 0 ≤ p.2.1 ∧ p.2.2.length ≤ 60) (yL (ydd K)) fun p => mixF p.1 p.2.1 p.2.2 p.2.2.length
theorem ok__law_mixed (E : Tp K mg w T base) : FnOk P w K mg base CX0 2 E.f__law_mixed E.d__law_mixed ["_law_row_here", "_law_at", "_law_deeds"] (sp_law_mixed K T) :=
  ok_rets E.F__law_mixed sc__law_mixed (fun _ _ _ h => len3 h) fun cdv Ar outer s H Ex hr => ⟨_, PSs.nox (pss_cons (ps_set (i := 3) sc__law_mixed.nd rfl (.inl rfl) (pe_lst pa_nil)) (pss_cons (ps_for PassesOwn.never rfl (pi_range1 (by rfl) E.range (pa_cons (pe_callB call_lenU (by rfl) E.len (by decide +kernel) (pa_cons (pv 2) pa_nil)) pa_nil)) (pg_name (i := 4) sc__law_mixed.nd rfl (.inl rfl)) (pss_cons (ps_set (i := 5) sc__law_mixed.nd rfl (.inl rfl) (pe_call (ok__law_draw (T := T) E) (hr.mono (by decide)) (by rfl) E.g__law_draw E.F__law_draw.kp (bd__law_draw E) .nil pass0 (pa_cons (pv 0) (pa_cons (pe_op op_plus (pv 1) (pv 4)) (pa_cons (pe_op op_plus (pe_callB call_lenU (by rfl) E.len (by decide +kernel) (pa_cons (pv 3) pa_nil)) pe_int) pa_nil))))) (pss_one (ps_set (i := 3) sc__law_mixed.nd rfl (.inl rfl) (pe_op op_plus (pe_op op_plus (pe_slice sl_list (pv 3) po_none (po_some (pv 5))) (pe_lst (pa_cons (pe_ix (ix_any (hu9 hr)) (pv 2) (pv 4) (fun _ _ => by rfl)) pa_nil))) (pe_slice sl_list (pv 3) (po_some (pv 5)) po_none)))))) (pss_one (ps_ret (pv 3))))), fun vs p ⟨v, u, z, e, y1, y2, y3⟩ ⟨hr0, ha, hl⟩ => by
    subst e
    obtain ⟨r, a, L⟩ := p
    have y1 : yL yI H v r := y1
    obtain rfl : u = V.int a := y2
    have y3 : yL (ydd K) H z L := y3
    have hl : L.length ≤ 60 := hl
    refine rt_set (Y1 := yL (ydd K)) (a := ([] : List Deed)) (ev_lst eds_nil (by show 0 ≤ sizeLine; decide)) fun mv H1 r1 ym => ?_
    intro H0 r0 En k
    have r10 := r1.trans r0
    have v2 : ∀ (H2 : Hp) (σ' : L2.St), Rp T H H2 → σ'[2]? = some (some z) → Ev T (yL (ydd K)) (tVar 2) σ' H2 L := fun H2 σ' q e => ev_var e (Mono.mono q y3)
    refine s_forR (T := T) (n := (L.length : Int)) (ea_int (ev_leL (K := K) (P := P) (w := w) (v2 H0 _ r10 rfl))) (by omega) (by have : (60 : Int) < 2 ^ 62 := (by decide); omega) fun H2 r2 => ?_
    refine ⟨fun i σ' H' => Rp T H2 H' ∧ ∃ mv b c, σ' = [some v, some (.int a), some z, some mv, b, c] ∧ yL (ydd K) H' mv (mixF r a L i), ⟨Rp.refl _, mv, none, none, rfl, Mono.mono (T := T) (r0.trans r2) ym⟩, ?_, ?_⟩
    · rintro i σ' H' hi ⟨rI, mv, b, c, eσ, yI'⟩
      subst eσ
      rw [Int.toNat_natCast] at hi
      have rH := r10.trans (r2.trans rI)
      have ml : (mixF r a L i).length = i := by rw [(mixF_perm r a L i).length_eq, List.length_take]; omega
      have dl := drawF_lt r (a + i) (lim := ((mixF r a L i).length : Int) + 1) (by omega)
      show tSeq _ _ _ ([some v, some (.int a), some z, some mv, some (.int (i : Int)), c] : L2.St) H'
      refine q_set (T := T) (Y := yI) (a := drawF r (a + i) (((mixF r a L i).length : Int) + 1)) (ev_c3 (T := T) (Y := yI) (f := fun p => drawF p.1 p.2.1 p.2.2) (pre := fun p => p.1 ≠ [] ∧ 0 ≤ p.2.1 ∧ 0 < p.2.2) (Y1 := yL yI) (Y2 := yI) (Y3 := yI) (a := r) (b := a + i) (c := ((mixF r a L i).length : Int) + 1) (ev_var (i := 0) rfl (Mono.mono rH y1)) (ev_pl (ev_var (i := 1) (Y := yI) (b := a) rfl rfl) (ev_var (i := 4) (Y := yI) (b := (i : Int)) rfl rfl)) (ev_pl (ev_leL (K := K) (P := P) (w := w) (ev_var (i := 3) rfl yI')) ev_int) ⟨hr0, by show 0 ≤ a + i; have : 0 ≤ a := ha; omega, by show 0 < ((mixF r a L i).length : Int) + 1; omega⟩) fun sv H3 r3 es => ?_
      obtain rfl : sv = V.int _ := es
      show tAsg _ _ _ ([some v, some (.int a), some z, some mv, some (.int (i : Int)), some (.int (drawF r (a + i) (((mixF r a L i).length : Int) + 1)))] : L2.St) H3
      generalize hs : drawF r (a + i) (((mixF r a L i).length : Int) + 1) = s at dl
      have m3 : Ev T (yL (ydd K)) (tVar 3) ([some v, some (.int a), some z, some mv, some (.int (i : Int)), some (.int s)] : L2.St) H3 (mixF r a L i) := ev_var (i := 3) rfl (Mono.mono (T := T) r3 yI')
      obtain ⟨e1, e2⟩ := cut_two (l := mixF r a L i) dl.1 (by omega)
      have hx : L[i]? = some L[i] := List.getElem?_eq_getElem hi
      have em : mixF r a L (i + 1) = (mixF r a L i).take s.toNat ++ [L[i]] ++ (mixF r a L i).drop s.toNat := by
        show (mixF r a L i).take (drawF r (a + i) ((mixF r a L i).length + 1)).toNat ++ (L[i]?).toList ++ (mixF r a L i).drop (drawF r (a + i) ((mixF r a L i).length + 1)).toNat = _
        rw [hs, hx]
        rfl
      refine s_set (T := T) (Y := yL (ydd K)) (b := mixF r a L (i + 1)) (ev_eq (ev_plL (K := K) (Y := ydd K) (bs := cutL (mixF r a L i) none (some s) ++ [L[i]]) (cs := cutL (mixF r a L i) (some s) none) (ev_plL (K := K) (Y := ydd K) (bs := cutL (mixF r a L i) none (some s)) (cs := [L[i]]) (ev_slL m3 eo_none (eo_some (ev_var (i := 5) (Y := yI) (b := s) rfl rfl))) (ev_lst (eds_cons (ev_suL (Y := ydd K) (P := P) (w := w) (v2 H3 _ (rH.trans r3) rfl) (ev_var (i := 4) (Y := yI) (b := (i : Int)) rfl rfl) (atI_nat hx)) eds_nil) (by show 1 ≤ sizeLine; decide)) ?_) (ev_slL m3 (eo_some (ev_var (i := 5) (Y := yI) (b := s) rfl rfl)) eo_none) ?_) (by rw [em, e1, e2])) fun nv H4 r4 y4 => ?_
      · rw [e1]
        refine Nat.le_trans (Nat.add_le_add_right (List.length_take_le _ _) _) ?_
        exact Nat.le_trans (by show s.toNat + 1 ≤ 100; omega) (by decide)
      · rw [e1, e2]
        have h1 := List.length_take_le s.toNat (mixF r a L i)
        have h2 : ((mixF r a L i).drop s.toNat).length ≤ (mixF r a L i).length := by rw [List.length_drop]; omega
        rw [List.length_append]
        exact Nat.le_trans (by show _ + 1 + _ ≤ 200; omega) (by decide)
      · exact ⟨rI.trans (r3.trans r4), nv, _, _, rfl, y4⟩
    · rintro σ' H' ⟨rI, mv, b, c, eσ, ym'⟩
      subst eσ
      rw [Int.toNat_natCast] at ym'
      exact (rt_ret (T := T) (Y := yL (ydd K)) (ev_var (i := 3) rfl ym')).go fun v4 H4 r4 y4 => k v4 H4 (r2.trans (rI.trans r4)) y4⟩
end
end K20
namespace K20
open PySem PySem.Spec PyProof.Rows L2
section
variable {P : Program} {w : World} {K : Fg} {mg : Str → Option Value} {base : Heap} {T : List (Addr × Str)} {H H' H0 H1 : Hp} {σ : L2.St} {te ta tb : TE}
/-- a list that may have been laid from without -/
def yLq (K : Fg) : Hp → V → List Int → Prop := fun H v ns => ∃ a, v = .ref a ∧ SqL K H a (ns.map V.int)
theorem ev_slq {tl th : TO} {ns : List Int} {lo hi : Option Int} {v : V} {i : Nat} (e : σ[i]? = some (some v)) (y : yLq K H v ns) (hm : ∀ H1, Rp T H H1 → yLq K H1 v ns) (h1 : EvO T tl σ H lo) (h2 : EvO T th σ H hi) : Ev T (yLN H yI) (tSl (rSlL K) (tVar i) tl th) σ H (cutL ns lo hi) := fun H1 r1 Q q =>
  ⟨v, e, h1 H1 r1 _ fun H3 r3 => h2 H3 (r1.trans r3) _ fun H4 r4 => by
    obtain ⟨a, ev, sq⟩ := hm H4 (r1.trans (r3.trans r4))
    refine ⟨a, ns.map V.int, ev, sq, fun p hp => q _ _ (r3.trans (r4.trans (Rp.new hp))) ⟨p, _, rfl, upd_same, (r1.trans (r3.trans r4)).nw (Nw.of hp), ?_⟩⟩
    exact paired_cut (paired_ints ns) lo hi⟩
theorem yLq_mono {v : V} {ns : List Int} (r : Rp T H H') (h : yLq K H v ns) : yLq K H' v ns := by
  obtain ⟨a, e, s⟩ := h
  refine ⟨a, e, ?_⟩
  rcases s with (s | ⟨o, s⟩) | s
  · exact .inl (.inl (r.keep _ _ s (fun _ z => by cases z)))
  · exact .inl (.inr ⟨o, r.keep _ _ s (fun _ z => by cases z)⟩)
  · exact .inr s
/-- the numbers so far -/
def RowA (H : Hp) (l n : Nat) : Prop := ∃ r : List Int, H l = some (.lst (r.map V.int)) ∧ r.length ≤ n
theorem RowA.rp {l n : Nat} (r : Rp T H H') (h : RowA H l n) : RowA H' l n := by
  obtain ⟨x, h1, h2⟩ := h
  exact ⟨x, r.lst h1, h2⟩
theorem RowA.le {l n m : Nat} (h : RowA H l n) (q : n ≤ m) : RowA H l m := by
  obtain ⟨x, h1, h2⟩ := h
  exact ⟨x, h1, Nat.le_trans h2 q⟩
theorem sc__law_numbers : FnScope ["_law_script", "_law_row_here", "_law_cell", "_law_left", "_law_k", "_law_mixed_here"] ["_law_script"] (defScope s__law_numbers) := ⟨rfl, rfl, rfl, by decide +kernel, rfl, by decide +kernel, by decide +kernel⟩
theorem bd__law_numbers (E : Tp K mg w T base) : Binds K E.d__law_numbers ["_law_script"] [] := E.F__law_numbers.bindsN fun _ _ _ _ _ _ us hl => match us, hl with | [_], _ => rfl
def sp_law_numbers (K : Fg) (T : List (Addr × Str)) : Sp := fun vs H Q _ => ∃ (v : V) (ns : List Int), vs = [v] ∧ yLq K H v ns ∧ ∀ H' u r, Rp T H H' → yL yI H' u r → r ≠ [] → r.length ≤ 4000 → Q u H'
theorem ok__law_numbers (E : Tp K mg w T base) : FnOk P w K mg base CX0 1 E.f__law_numbers E.d__law_numbers ["_law_script"] (sp_law_numbers K T) := by
  refine E.F__law_numbers.ok sc__law_numbers (fun vs H Q Ex h => ?_) (fun cdv Ar outer s H vs Q Ex hr h => ⟨_, PSs.nox (pss_cons (ps_set (i := 1) sc__law_numbers.nd rfl (.inl rfl) (pe_lst pa_nil)) (pss_cons (ps_for PassesOwn.never rfl (pi_list (pe_slice sl_list (pv 0) po_none (po_some pe_int))) (pg_name (i := 2) sc__law_numbers.nd rfl (.inl rfl)) (pss_one (ps_if (pt_cmpR op_ge (pv 2) (pe_op op_pow pe_int pe_int) (nomark _)) (pss_cons (ps_set (i := 3) sc__law_numbers.nd rfl (.inl rfl) (pv 2)) (pss_one (ps_for PassesOwn.never rfl (pi_range1 (by rfl) E.range (pa_cons pe_int pa_nil)) (pg_name (i := 4) sc__law_numbers.nd rfl (.inl rfl)) (pss_cons (ps_if (pt_cmpR (op_eqK (hu64 hr)) (pv 3) pe_int (nomark _)) (pss_one ps_break) pss_nil) (pss_cons (ps_expr (pe_bm PySem.F.plainAttrs_list PySem.F.slot_list_append PySem.F.type_list_append mt_append (pv 1) (pa_cons (pe_op op_mod (pe_callTy call_int1 (by rfl) E.int (by decide +kernel) (pa_cons (pv 3) pa_nil)) pe_int) pa_nil))) (pss_one (ps_set (i := 3) sc__law_numbers.nd rfl (.inl rfl) (pe_op op_fdivW (pv 3) pe_int)))))))) (pss_one (ps_for PassesOwn.never rfl (pi_range1 (by rfl) E.range (pa_cons pe_int pa_nil)) (pg_name (i := 4) sc__law_numbers.nd rfl (.inl rfl)) (pss_cons (ps_set (i := 5) sc__law_numbers.nd rfl (.inl rfl) (pe_op op_mod (pe_callTy call_int1 (by rfl) E.int (by decide +kernel) (pa_cons (pe_op op_plus (pe_op op_plus (pe_op op_mulX (pv 2) pe_int) (pe_op op_mulX (pv 4) pe_int)) pe_int) pa_nil)) pe_int)) (pss_one (ps_expr (pe_bm PySem.F.plainAttrs_list PySem.F.slot_list_append PySem.F.type_list_append mt_append (pv 1) (pa_cons (pe_op op_mod (pe_callTy call_int1 (by rfl) E.int (by decide +kernel) (pa_cons (pe_op op_plus (pe_op op_mulX (pv 5) pe_int) (pv 4)) pa_nil)) pe_int) pa_nil)))))))))) (pss_cons (ps_if (pt_cmpR (op_eqK (hu64 hr)) (pe_callB call_lenU (by rfl) E.len (by decide +kernel) (pa_cons (pv 1) pa_nil)) pe_int (nomark _)) (pss_one (ps_expr (pe_bm PySem.F.plainAttrs_list PySem.F.slot_list_append PySem.F.type_list_append mt_append (pv 1) (pa_cons pe_int pa_nil)))) pss_nil) (pss_one (ps_ret (pv 1)))))), ?_⟩)
  · obtain ⟨v, ns, rfl, _⟩ := h
    rfl
  obtain ⟨v, ns, rfl, ys, kk⟩ := h
  refine q_set (T := T) (Y := yLN H yI) (a := ([] : List Int)) (ev_lstN eds_nil (by show 0 ≤ sizeLine; decide)) fun lv H1 r1 ⟨l, vs0, el, hl, nl, p0⟩ => ?_
  subst el
  cases p0
  show tSeq _ _ _ ([some v, some (.ref l), none, none, none, none] : L2.St) H1
  -- behind the loop
  have fin : ∀ (En : Ends) (σ' : L2.St) (H2 : Hp), (∀ u H', En.rt u H' = Q u H') → (∃ b c d e, σ' = [some v, some (.ref l), b, c, d, e]) → Rp T H H2 → RowA H2 l 3780 →
      tSeq (tIfS (tTest (tOp (rEqK K) (tCB (rLenU K P w) (tCons (tVar 1) tNil)) (tC (.int 0)))) (tDrop (tBM K "list" rAppend (tVar 1) (tCons (tC (.int 0)) tNil))) tNext) (tRet (tVar 1)) En σ' H2 := by
    rintro En σ' H2 eQ ⟨b, c, d, e, rfl⟩ r2 ⟨r, h1, h2⟩
    have vl : Ev T (yL yI) (tVar 1) [some v, some (.ref l), b, c, d, e] H2 r := ev_var (i := 1) rfl ⟨l, _, rfl, h1, paired_ints r⟩
    refine q_ifs (T := T) (c := decide ((r.length : Int) = 0)) (et_test (ev_eqI (ev_leL (K := K) (P := P) (w := w) vl) ev_int)) (fun q H3 r3 => ?_) (fun q H3 r3 => ?_)
    · have q := of_decide_eq_true q
      obtain rfl : r = [] := List.eq_nil_of_length_eq_zero (by omega)
      refine s_append (T := T) (Y := yI) (b := 0) (l := l) (xs := []) (σ := [some v, some (.ref l), b, c, d, e]) (ev_var (i := 1) rfl rfl) ev_int (r3.lst h1) (by show 0 < sizeLine; decide) fun u H4 r4 e0 => ?_
      obtain rfl : u = V.int 0 := e0
      refine ⟨.ref l, rfl, ?_⟩
      show En.rt _ _
      rw [eQ]
      exact kk _ _ [0] ((r2.trans (r3.trans r4)).chgLN nl ((r3.trans r4).lst h1)) ⟨l, [.int 0], rfl, upd_same, paired_ints [0]⟩ (by simp) (by decide)
    · have q := of_decide_eq_false q
      refine ⟨.ref l, rfl, ?_⟩
      rw [eQ]
      exact kk _ _ r (r2.trans r3) ⟨l, _, rfl, r3.lst h1, paired_ints r⟩ (fun z => q (by rw [z]; rfl)) (by omega)
  have cl : (cutL ns none (some 63)).length ≤ 63 := by
    have e : cutL ns none (some 63) = (ns.drop 0).take (min 63 ns.length - 0) := rfl
    rw [e]
    refine Nat.le_trans (List.length_take_le _ _) ?_
    omega
  refine s_forLN (T := T) (Y := yI) (bs := cutL ns none (some 63)) (ev_slq (K := K) (i := 0) rfl (yLq_mono r1 ys) (fun H2 r2 => yLq_mono (r1.trans r2) ys) eo_none (eo_some ev_int)) fun H2 a vs2 r2 ha na => ?_
  have al : a ≠ l := fun e => by
    rw [e] at na
    obtain ⟨ps, z⟩ := na _ hl
    cases z
  have put : ∀ {H' : Hp} {n : Nat} {i : Int} {σ' : L2.St} {En : Ends} {te : TE}, σ'[1]? = some (some (.ref l)) → Ev T yI te σ' H' i → Rp T H H' → Tk H2 H' → H' a = some (.lst vs2) → RowA H' l n → n < 4000 →
      (∀ H3, Rp T H H3 → Tk H2 H3 → H3 a = some (.lst vs2) → RowA H3 l (n + 1) → En.nx σ' H3) → tDrop (tBM K "list" rAppend (tVar 1) (tCons te tNil)) En σ' H' := fun {H' n i σ' En te} e1 h rH tk ha' ⟨r, g1, g2⟩ hn k => by
    refine s_append (T := T) (Y := yI) (b := i) (l := l) (xs := r.map V.int) (σ := σ') (ev_var (i := 1) e1 rfl) h g1 (by rw [List.length_map]; exact Nat.lt_of_le_of_lt (by omega : r.length ≤ 4000) (by decide)) fun x H3 r3 e0 => ?_
    obtain rfl : x = V.int i := e0
    have g3 := r3.lst g1
    refine k _ ((rH.trans r3).chgLN nl g3) ((tk.trans r3.tk).trans (Tk.updL g3)) (by rw [upd_ne al]; exact r3.lst ha') ⟨r ++ [i], by rw [upd_same, List.map_append]; rfl, by rw [List.length_append]; exact Nat.succ_le_succ g2⟩
  refine ⟨fun i σ' H' => Rp T H H' ∧ Tk H2 H' ∧ H' a = some (.lst vs2) ∧ (∃ b c d e, σ' = [some v, some (.ref l), b, c, d, e]) ∧ RowA H' l (60 * i), ?_, fun i σ' H' p => ⟨p.2.1, p.2.2.1⟩, ?_, ?_⟩
  · exact ⟨r1.trans r2, Tk.refl _, ha, ⟨none, none, none, none, rfl⟩, [], r2.lst hl, Nat.le_refl _⟩
  · rintro i c σ' H' cv hi ⟨rH, tk, ha', ⟨b, c', d, e, eσ⟩, ra⟩ ec
    subst eσ
    obtain rfl : cv = V.int c := ec
    have il : i < 63 := Nat.lt_of_lt_of_le (List.getElem?_eq_some_iff.mp hi).1 cl
    show tIfS _ _ _ _ ([some v, some (.ref l), some (.int c), c', d, e] : L2.St) H'
    refine q_if (T := T) (c := decide (c ≥ 10 ^ (18 : Int).toNat)) (et_test (ev_cmp (ev_var (i := 2) (Y := yI) (b := c) rfl rfl) (ev_pow ev_int ev_int ⟨by decide, by decide, by decide +kernel⟩))) (fun _ H3 r3 => ?_) (fun _ H3 r3 => ?_)
    · refine q_set (T := T) (Y := yI) (a := c) (ev_var (i := 2) rfl rfl) fun xv H4 r4 ex => ?_
      obtain rfl : xv = V.int c := ex
      show tFor _ _ _ _ ([some v, some (.ref l), some (.int c), some (.int c), d, e] : L2.St) H4
      have r34 := r3.trans r4
      refine s_forR (T := T) (n := 60) (ea_int ev_int) (by decide) (by decide) fun H5 r5 => ?_
      refine ⟨fun j σ' H' => Rp T H H' ∧ Tk H2 H' ∧ H' a = some (.lst vs2) ∧ (∃ (x : Int) (d e : Option V), σ' = [some v, some (.ref l), some (.int c), some (.int x), d, e]) ∧ RowA H' l (60 * i + j), ?_, ?_, ?_⟩
      · exact ⟨rH.trans (r34.trans r5), tk.trans (r34.trans r5).tk, (r34.trans r5).lst ha', ⟨c, _, _, rfl⟩, (ra.rp (r34.trans r5)).le (Nat.le_add_right _ _)⟩
      · rintro j σ' H6 hj ⟨rH6, tk6, ha6, ⟨x, d', e', eσ⟩, ra6⟩
        subst eσ
        have hj : j < 60 := hj
        show tSeq _ _ _ ([some v, some (.ref l), some (.int c), some (.int x), some (.int (j : Int)), e'] : L2.St) H6
        have x3 : ∀ H7, Ev T yI (tVar 3) [some v, some (.ref l), some (.int c), some (.int x), some (.int (j : Int)), e'] H7 x := fun H7 => ev_var (i := 3) rfl rfl
        refine q_ifs (T := T) (c := decide (x = 0)) (et_test (ev_eqI (x3 H6) ev_int)) (fun _ H7 r7 => ?_) (fun _ H7 r7 => ?_)
        · exact ⟨rH6.trans r7, tk6.trans r7.tk, r7.lst ha6, ⟨_, _, _, _, rfl⟩, (ra6.rp r7).le (by omega)⟩
        · refine put (n := 60 * i + j) (i := x % 997) rfl (ev_mod (ev_toI rfl (x3 H7)) ev_int (by decide)) (rH6.trans r7) (tk6.trans r7.tk) (r7.lst ha6) (ra6.rp r7) (by omega) fun H8 rH8 tk8 ha8 ra8 => ?_
          refine s_set (T := T) (Y := yI) (b := x / 997) (ev_fdiv (x3 H8) ev_int ⟨by decide, by decide +kernel⟩) fun yv H9 r9 ey => ?_
          obtain rfl : yv = V.int (x / 997) := ey
          exact ⟨rH8.trans r9, tk8.trans r9.tk, r9.lst ha8, ⟨_, _, _, rfl⟩, ra8.rp r9⟩
      · rintro σ' H6 ⟨rH6, tk6, ha6, ⟨x, d', e', eσ⟩, ra6⟩
        exact ⟨rH6, tk6, ha6, ⟨_, _, _, _, eσ⟩, ra6.le (by show 60 * i + 60 ≤ _; omega)⟩
    · refine s_forR (T := T) (n := 4) (ea_int ev_int) (by decide) (by decide) fun H5 r5 => ?_
      have r35 := r3.trans r5
      refine ⟨fun j σ' H' => Rp T H H' ∧ Tk H2 H' ∧ H' a = some (.lst vs2) ∧ (∃ (x d e : Option V), σ' = [some v, some (.ref l), some (.int c), x, d, e]) ∧ RowA H' l (60 * i + j), ?_, ?_, ?_⟩
      · exact ⟨rH.trans r35, tk.trans r35.tk, r35.lst ha', ⟨_, _, _, rfl⟩, (ra.rp r35).le (Nat.le_add_right _ _)⟩
      · rintro j σ' H6 hj ⟨rH6, tk6, ha6, ⟨x, d', e', eσ⟩, ra6⟩
        subst eσ
        have hj : j < 4 := hj
        show tSeq _ _ _ ([some v, some (.ref l), some (.int c), x, some (.int (j : Int)), e'] : L2.St) H6
        refine q_set (T := T) (Y := yI) (a := (c * 48271 + (j : Int) * 69621 + 11) % 2147483647) (ev_mod (ev_toI rfl (ev_pl (ev_pl (ev_mul (ev_var (i := 2) rfl rfl) ev_int (small_mul (by decide +kernel))) (ev_mul (ev_var (i := 4) rfl rfl) ev_int (small_mul (by decide +kernel)))) ev_int)) ev_int (by decide)) fun mv H7 r7 em => ?_
        obtain rfl : mv = V.int _ := em
        generalize (c * 48271 + (j : Int) * 69621 + 11) % 2147483647 = mx
        show tDrop _ _ ([some v, some (.ref l), some (.int c), x, some (.int (j : Int)), some (.int mx)] : L2.St) H7
        refine put (n := 60 * i + j) (i := (mx * 16807 + (j : Int)) % 2147483629) rfl (ev_mod (ev_toI rfl (ev_pl (ev_mul (ev_var (i := 5) rfl rfl) ev_int (small_mul (by decide +kernel))) (ev_var (i := 4) rfl rfl))) ev_int (by decide)) (rH6.trans r7) (tk6.trans r7.tk) (r7.lst ha6) (ra6.rp r7) (by omega) fun H8 rH8 tk8 ha8 ra8 => ?_
        exact ⟨rH8, tk8, ha8, ⟨_, _, _, rfl⟩, ra8⟩
      · rintro σ' H6 ⟨rH6, tk6, ha6, ⟨x, d', e', eσ⟩, ra6⟩
        exact ⟨rH6, tk6, ha6, ⟨_, _, _, _, eσ⟩, ra6.le (by show 60 * i + 4 ≤ _; omega)⟩
  · rintro σ' H' ⟨rH, tk, ha', ⟨b, c, d, e, eσ⟩, ra⟩
    exact fin _ σ' H' (fun _ _ => rfl) ⟨b, c, d, e, eσ⟩ rH (ra.le (by have := cl; omega))
/-- the law's table of a tree -/
def yU (K : Fg) (P : Program) (w : World) : Hp → V → Tr → Prop := fun H v t => yM K P w (ypo K) H v (utab t)
instance : Mono T (yU K P w) := ⟨fun r h => Mono.mono (T := T) (Y := yM K P w (ypo K)) r h⟩
theorem ev_UM {t : Tr} (h : Ev T (yU K P w) te σ H t) : Ev T (yM K P w (ypo K)) te σ H (utab t) := h
/-- up[s][0] -/
theorem ev_up0 {t : Tr} {s : List Int} {pl : Pl} (h : Ev T (yU K P w) ta σ H t) (hs : Ev T (yk K) tb σ H s) (e : lu t s = some pl) : Ev T (yo K) (tOp (rSub K P w) (tOp (rSub K P w) ta tb) (tC (.int 0))) σ H pl.1 :=
  ev_fst (Y := yo K) (Z := yS) (p := (pl.1, sideS pl.2)) (ev_suK (Z := ypo K) (g := pl) (ev_UM h) (ev_kD hs) (keyI _) (by rw [lu_utab]; exact e))

theorem sc__law_above : FnScope ["_law_up", "_law_one", "_law_other", "_law_spot", "_law_k"] ["_law_up", "_law_one", "_law_other"] (defScope s__law_above) := ⟨rfl, rfl, rfl, by decide +kernel, rfl, by decide +kernel, by decide +kernel⟩
theorem bd__law_above (E : Tp K mg w T base) : Binds K E.d__law_above ["_law_up", "_law_one", "_law_other"] [] := E.F__law_above.bindsN fun _ _ _ _ _ _ us hl => match us, hl with | [_, _, _], _ => rfl
def sp_law_above (K : Fg) (P : Program) (w : World) (T : List (Addr × Str)) : Sp := PSp T (a3 (yU K P w) (yk K) (yk K)) (fun p => TB p.1 ∧ p.1.length ≤ 200 ∧ p.2.2 ∈ keys p.1) yB fun p => anc (lu p.1) (p.1.length + 1) p.2.1 p.2.2
theorem ok__law_above (E : Tp K mg w T base) : FnOk P w K mg base CX0 1 E.f__law_above E.d__law_above ["_law_up", "_law_one", "_law_other"] (sp_law_above K P w T) :=
  ok_rets E.F__law_above sc__law_above (fun _ _ _ h => len3 h) fun cdv Ar outer s H Ex hr => ⟨_, PSs.nox (pss_cons (ps_set (i := 3) sc__law_above.nd rfl (.inl rfl) (pe_ix (ix_any (hu9 hr)) (pe_ix (ix_any (hu9 hr)) (pv 0) (pv 2) (fun _ _ => by rfl)) pe_int (fun _ _ => by rfl))) (pss_cons (ps_for PassesOwn.never rfl (pi_range1 (by rfl) E.range (pa_cons (pe_op op_plus (pe_callB call_lenU (by rfl) E.len (by decide +kernel) (pa_cons (pv 0) pa_nil)) pe_int) pa_nil)) (pg_name (i := 4) sc__law_above.nd rfl (.inl rfl)) (pss_cons (ps_if (PW.pt (pw_or (pt_cmp (pc_isN (pv 3)) rfl) (pw_or1 (pt_cmpR (op_eqK (hu64 hr)) (pv 3) (pv 1) (nomark _))))) (pss_one ps_break) pss_nil) (pss_one (ps_set (i := 3) sc__law_above.nd rfl (.inl rfl) (pe_ix (ix_any (hu9 hr)) (pe_ix (ix_any (hu9 hr)) (pv 0) (pv 3) (fun _ _ => by rfl)) pe_int (fun _ _ => by rfl)))))) (pss_one (ps_ret (pe_and (pe_cmp (pc_notN (pv 3)) rfl) (pe_one (pe_cmpR (op_eqK (hu64 hr)) (pv 3) (pv 1) (nomark _)))))))), fun vs p ⟨v, u, z, e, y1, y2, y3⟩ ⟨B, hl, hk⟩ => by
    subst e
    obtain ⟨t, a, c⟩ := p
    have y1 : yU K P w H v t := y1
    have y2 : yk K H u a := y2
    have y3 : yk K H z c := y3
    have hk : c ∈ keys t := hk
    have hl : t.length ≤ 200 := hl
    have tv : ∀ (H1 : Hp) (σ' : L2.St), Rp T H H1 → σ'[0]? = some (some v) → Ev T (yU K P w) (tVar 0) σ' H1 t := fun H1 σ' q e => ev_var e (Mono.mono q y1)
    have hb : anc (lu t) (t.length + 1) a c = true ↔ AncP (lu t) a c := anc_iff B a c hk _ (Nat.le_succ _)
    show Rets T yB _ _ _ (anc (lu t) (t.length + 1) a c)
    generalize anc (lu t) (t.length + 1) a c = ab at hb
    obtain ⟨pl, hpl⟩ := lu_some hk
    obtain ⟨n, hn, dep⟩ := B.depP c hk
    have st : AbI (lu t) a c t.length 0 pl.1 := AbI.start (by rw [hpl]) dep hn
    refine rt_set (Y1 := yo K) (ev_up0 (tv H _ (Rp.refl _) rfl) (ev_var (i := 2) rfl y3) hpl) fun ov H1 r1 yo1 => ?_
    intro H0 r0 En k
    have r10 := r1.trans r0
    have fin : ∀ (σ' : L2.St) (H' : Hp) (o : Option (List Int)) (i : Nat), AbI (lu t) a c t.length i o → (o = none ∨ o = some a) → (∃ ov d, σ' = [some v, some u, some z, some ov, d] ∧ yo K H' ov o) → Rp T H0 H' →
        tRet (tAndV (tNotN (tVar 3)) (tOp (rEqK K) (tVar 3) (tVar 1))) En σ' H' := by
      rintro σ' H' o i x ho ⟨ov, d, rfl, yo'⟩ r'
      refine (rt_retE (T := T) (Y := yB) (ev_andV (ev_notN (d := oD o) (ev_var (i := 3) rfl yo')) fun _ => ev_eqK (K := K) (d := oD o) (e := tI a) (ev_var (i := 3) rfl yo') (ev_kD (ev_var (i := 1) rfl (Mono.mono (T := T) (Y := yk K) (r10.trans r') y2))) (oD_ok _) (tI_ok _)) ?_).go fun v4 H4 r4 y4 => k v4 H4 (r'.trans r4) y4
      rw [← x.told ho hb]
      cases o with
      | none => rfl
      | some q =>
        show (true && decide (tI q = tI a)) = decide (some q = some a)
        rw [Bool.true_and]
        by_cases e : q = a
        · rw [e, decide_eq_true rfl, decide_eq_true rfl]
        · rw [decide_eq_false (fun z => e (tI_inj z)), decide_eq_false (fun z => e (Option.some.inj z))]
    refine s_forR (T := T) (n := (t.length : Int) + 1) (ea_int (ev_pl (by
      have z := ev_leK (K := K) (P := P) (w := w) (ev_UM (tv H0 ([some v, some u, some z, some ov, none]) r10 rfl))
      rw [show (utab t).length = t.length from List.length_map _] at z
      exact z) ev_int)) (by omega) (by have : (201 : Int) < 2 ^ 62 := (by decide); omega) fun H2 r2 => ?_
    refine ⟨fun i σ' H' => Rp T H0 H' ∧ ∃ o, AbI (lu t) a c t.length i o ∧ ∃ ov d, σ' = [some v, some u, some z, some ov, d] ∧ yo K H' ov o, ⟨r2, pl.1, st, ov, none, rfl, Mono.mono (T := T) (Y := yo K) (r0.trans r2) yo1⟩, ?_, ?_⟩
    · rintro i σ' H' hi ⟨rI, o, x, ov', d, eσ, yo'⟩
      subst eσ
      show tSeq _ _ _ ([some v, some u, some z, some ov', some (.int (i : Int))] : L2.St) H'
      have o3 : ∀ H3, Rp T H' H3 → Ev T (yD K) (tVar 3) [some v, some u, some z, some ov', some (.int (i : Int))] H3 (oD o) := fun H3 r => ev_var (i := 3) rfl (Mono.mono (T := T) (Y := yo K) r yo')
      refine q_ifs (T := T) (c := isNo (oD o) || decide (oD o = tI a)) (et_or (et_B (ev_isN (o3 H' (Rp.refl _)))) fun _ => et_test (ev_eqK (K := K) (o3 H' (Rp.refl _)) (ev_kD (ev_var (i := 1) rfl (Mono.mono (T := T) (Y := yk K) (r10.trans rI) y2))) (oD_ok _) (tI_ok _))) (fun q H3 r3 => ?_) (fun q H3 r3 => ?_)
      · refine fin _ H3 o i x ?_ ⟨ov', _, rfl, Mono.mono (T := T) (Y := yo K) r3 yo'⟩ (rI.trans r3)
        cases o with
        | none => exact .inl rfl
        | some p =>
          have q : (false || decide (tI p = tI a)) = true := q
          rw [Bool.false_or] at q
          exact .inr (by rw [tI_inj (of_decide_eq_true q)])
      · cases o with
        | none => exact absurd q (by show ¬ ((true || _) = false); rw [Bool.true_or]; decide)
        | some p =>
          have q : (false || decide (tI p = tI a)) = false := q
          rw [Bool.false_or] at q
          obtain ⟨o', sd, e, x'⟩ := x.next (fun z => absurd (by rw [z]) (of_decide_eq_false q))
          refine s_set (T := T) (Y := yo K) (b := o') (ev_up0 (pl := (o', sd)) (tv H3 _ ((r10.trans rI).trans r3) rfl) (ev_var (i := 3) rfl (Mono.mono (T := T) (Y := yk K) r3 yo')) e) fun nv H4 r4 y4 => ?_
          exact ⟨(rI.trans r3).trans r4, o', x', nv, _, rfl, y4⟩
    · rintro σ' H' ⟨rI, o, x, ov', d, eσ, yo'⟩
      have e : ((t.length : Int) + 1).toNat = t.length + 1 := by omega
      rw [e] at x
      exact fin σ' H' o _ x (.inl x.done) ⟨ov', d, eσ, yo'⟩ rI⟩
end
end K20
namespace K20
open PySem PySem.Spec PyProof.Rows L2
def leftB (t : Tr) (l r : Option (List Int)) : Bool :=
  match r with
  | none => false
  | some r' => under t l r'
theorem place_c (t : Tr) (l r : Option (List Int)) : place t l r = if leftB t l r = true then (r, true) else (l, false) := by
  cases r with
  | none => rfl
  | some r' => rfl
theorem small_tree {L : List Deed} (g : Good L) (h : L.length ≤ 60) (b : List Int) : (tree L b).length ≤ 180 := by
  have h1 := tree_le g b
  have h2 := ctree_small g
  omega
section
variable {P : Program} {w : World} {K : Fg} {mg : Str → Option Value} {base : Heap} {T : List (Addr × Str)} {H H' H0 H1 : Hp} {σ : L2.St} {te ta tb to ti : TE}
/-- one more sign -/
theorem tree_put {En : Ends} {d : Addr} {t : Tr} {s : List Int} {pl : Pl} (h : Ev T (ypo K) te σ H pl) (ho : Ev T yV to σ H (.ref d)) (hi : Ev T (yk K) ti σ H s) (y : yU K P w H (.ref d) t) (f : s ∉ keys t) (hl : t.length < 1000) (nd : Nw H0 d) (r : Rp T H0 H)
    (k : ∀ H', Rp T H0 H' → Tk H H' → (∀ a vs, H a = some (.lst vs) → H' a = some (.lst vs)) → yU K P w H' (.ref d) (t ++ [(s, pl)]) → En.nx σ H') : tAsg te (gSub to ti (setK K P w)) En σ H := by
  obtain ⟨a, kvs, e, d0, l⟩ := y
  cases e
  have hk : kvs.map (·.1) = (keys t).map tI := (paired_keys l).trans (utab_keys t)
  have ll : kvs.length = t.length := by rw [l.length]; exact List.length_map _
  refine s_setK (T := T) (Y := ypo K) (b := pl) (key := tI s) h ho (ev_kD hi) (keyI _) d0 (by rw [ll]; exact Nat.lt_of_lt_of_le hl (by decide)) fun v H1 o r1 y1 d1 d1' => ?_
  rw [putK_app (by
    rw [hk]
    intro z
    obtain ⟨q, hq, e⟩ := List.mem_map.mp z
    exact f (by rw [← tI_inj e]; exact hq))] at d1'
  refine k _ ((r.trans r1).chgDN nd d1) (r1.tk.trans d1.tk) (fun a vs ha => by rw [upd_ne (raw_ne d1 (r1.lst ha) lst_raw)]; exact r1.lst ha) ⟨d, _, rfl, d1', ?_⟩
  rw [utab_app]
  exact paired_snocK (F := ypo K (upd H1 d (RawO d o))) (Paired.mapP l fun _ _ ⟨q1, q2⟩ => ⟨q1, Imm.imm (Y := ypo K) (r1.tk.trans d1.tk) q2⟩) (Imm.imm (Y := ypo K) d1.tk y1)
theorem ev_so {s : List Int} (h : Ev T (yk K) te σ H s) : Ev T (yo K) te σ H (some s) := h
theorem sc__law_tree : FnScope ["_law_deeds", "_law_block", "_law_up", "_law_one", "_law_left", "_law_right", "_law_k"] ["_law_deeds", "_law_block"] (defScope s__law_tree) := ⟨rfl, rfl, rfl, by decide +kernel, rfl, by decide +kernel, by decide +kernel⟩
theorem bd__law_tree (E : Tp K mg w T base) : Binds K E.d__law_tree ["_law_deeds", "_law_block"] [] := E.F__law_tree.bindsN fun _ _ _ _ _ _ us hl => match us, hl with | [_, _], _ => rfl
def sp_law_tree (K : Fg) (P : Program) (w : World) (T : List (Addr × Str)) : Sp := PSp T (a2 (yL (ydd K)) (yk K)) (fun p => Good p.1 ∧ p.1.length ≤ 60) (yU K P w) fun p => tree p.1 p.2
theorem ok__law_tree (E : Tp K mg w T base) : FnOk P w K mg base CX0 2 E.f__law_tree E.d__law_tree ["_law_deeds", "_law_block"] (sp_law_tree K P w T) :=
  ok_rets E.F__law_tree sc__law_tree (fun _ _ _ h => len2 h) fun cdv Ar outer s H Ex hr => ⟨_, PSs.nox (pss_cons (ps_set (i := 2) sc__law_tree.nd rfl (.inl rfl) (pe_knew)) (pss_cons (ps_for PassesOwn.never rfl (pi_list (pv 0)) (pg_name (i := 3) sc__law_tree.nd rfl (.inl rfl)) (pss_one (ps_if (PW.pt (pw_and (pt_cmpR (op_eqK (hu64 hr)) (pe_ix (ix_any (hu9 hr)) (pe_ix (ix_any (hu9 hr)) (pv 3) pe_int (fun _ _ => by rfl)) pe_int (fun _ _ => by rfl)) pe_str (nomark _)) (pw_and1 (pt_cmpR (op_eqK (hu64 hr)) (pe_ix (ix_any (hu9 hr)) (pe_ix (ix_any (hu9 hr)) (pv 3) pe_int (fun _ _ => by rfl)) pe_int (fun _ _ => by rfl)) (pv 1) (nomark _))))) (pss_cons (ps_set (i := 4) sc__law_tree.nd rfl (.inl rfl) (pe_ix (ix_any (hu9 hr)) (pe_ix (ix_any (hu9 hr)) (pv 3) pe_int (fun _ _ => by rfl)) pe_int (fun _ _ => by rfl))) (pss_cons (ps_set (i := 5) sc__law_tree.nd rfl (.inl rfl) (pe_ix (ix_any (hu9 hr)) (pe_ix (ix_any (hu9 hr)) (pv 3) pe_int (fun _ _ => by rfl)) pe_int (fun _ _ => by rfl))) (pss_one (ps_for PassesOwn.never rfl (pi_range1 (by rfl) E.range (pa_cons (pe_callB call_lenU (by rfl) E.len (by decide +kernel) (pa_cons (pe_ix (ix_any (hu9 hr)) (pe_ix (ix_any (hu9 hr)) (pv 3) pe_int (fun _ _ => by rfl)) pe_int (fun _ _ => by rfl)) pa_nil)) pa_nil)) (pg_name (i := 6) sc__law_tree.nd rfl (.inl rfl)) (pss_one (ps_if (pt_cmpR op_gt (pv 6) pe_int (nomark _)) (pss_one (ps_asg (pe_tup (pa_cons (pe_tup (pa_cons (pe_ix (ix_any (hu9 hr)) (pv 3) pe_int (fun _ _ => by rfl)) (pa_cons (pe_ix (ix_any (hu9 hr)) (pv 3) pe_int (fun _ _ => by rfl)) (pa_cons (pe_op op_sub (pv 6) pe_int) pa_nil)))) (pa_cons pe_str pa_nil))) (pg_sub (pv 2) (pe_tup (pa_cons (pe_ix (ix_any (hu9 hr)) (pv 3) pe_int (fun _ _ => by rfl)) (pa_cons (pe_ix (ix_any (hu9 hr)) (pv 3) pe_int (fun _ _ => by rfl)) (pa_cons (pv 6) pa_nil)))) (set_k (hu9 hr))))) (pss_one (ps_if (PW.pt (pw_and (pt_cmp (pc_notN (pv 5)) rfl) (pw_and1 (PW.pt (pw_or (pt_cmp (pc_isN (pv 4)) rfl) (pw_or1 (pt_val (pe_call (ok__law_above (T := T) E) (hr.mono (by decide)) (by rfl) E.g__law_above E.F__law_above.kp (bd__law_above E) .nil pass0 (pa_cons (pv 2) (pa_cons (pv 4) (pa_cons (pv 5) pa_nil))))))))))) (pss_one (ps_asg (pe_tup (pa_cons (pv 5) (pa_cons pe_str pa_nil))) (pg_sub (pv 2) (pe_tup (pa_cons (pe_ix (ix_any (hu9 hr)) (pv 3) pe_int (fun _ _ => by rfl)) (pa_cons (pe_ix (ix_any (hu9 hr)) (pv 3) pe_int (fun _ _ => by rfl)) (pa_cons pe_int pa_nil)))) (set_k (hu9 hr))))) (pss_one (ps_asg (pe_tup (pa_cons (pv 4) (pa_cons pe_str pa_nil))) (pg_sub (pv 2) (pe_tup (pa_cons (pe_ix (ix_any (hu9 hr)) (pv 3) pe_int (fun _ _ => by rfl)) (pa_cons (pe_ix (ix_any (hu9 hr)) (pv 3) pe_int (fun _ _ => by rfl)) (pa_cons pe_int pa_nil)))) (set_k (hu9 hr))))))))))))) pss_nil))) (pss_one (ps_ret (pv 2))))), fun vs p ⟨v, bv, e, y1, y2⟩ ⟨g, hl⟩ => by
    subst e
    obtain ⟨L, b⟩ := p
    have y1 : yL (ydd K) H v L := y1
    have y2 : yk K H bv b := y2
    have g : Good L := g
    have hl : L.length ≤ 60 := hl
    show Rets T (yU K P w) _ [some v, some bv, none, none, none, none, none] H (tree L b)
    intro H0 r0 En kk
    have y1 := Mono.mono (T := T) r0 y1
    have y2 := Mono.mono (T := T) (Y := yk K) r0 y2
    refine q_set (T := T) (Y := yKN K P w H0) (a := []) ev_knew fun dv H1 r1 ⟨d, ed, dd, nd⟩ => ?_
    subst ed
    show tSeq (tFor _ _ _) _ _ ([some v, some bv, some (.ref d), none, none, none, none] : L2.St) H1
    refine s_forL (T := T) (Y := ydd K) (bs := L) (ev_var (i := 0) rfl (Mono.mono r1 y1)) fun H2 a vs r2 ha => ?_
    refine ⟨fun i σ' H' => Rp T H0 H' ∧ Tk H2 H' ∧ H' a = some (.lst vs) ∧ (∃ x1 x2 x3 x4, σ' = [some v, some bv, some (.ref d), x1, x2, x3, x4]) ∧ yU K P w H' (.ref d) (tree (L.take i) b), ?_, fun i σ' H' p => ⟨p.2.1, p.2.2.1⟩, ?_, ?_⟩
    · exact ⟨r1.trans r2, Tk.refl _, ha, ⟨none, none, none, none, rfl⟩, d, [], rfl, dd.rp r2, .nil⟩
    · rintro i x σ' H' xv hi ⟨rI, tk, ha', ⟨x1, x2, x3, x4, eσ⟩, yt⟩ yx
      subst eσ
      have gx : Good (L.take i ++ [x]) := by
        rw [← take_grow hi]
        exact Good.take (R := L.drop (i + 1)) (by rw [List.take_append_drop]; exact g)
      have lP : (L.take i).length ≤ 60 := Nat.le_trans (List.length_take_le' _ _) hl
      generalize hP : L.take i = Pf at gx yt lP
      have en : ∀ {σ3 : L2.St} {H3 : Hp}, Rp T H0 H3 → Tk H2 H3 → H3 a = some (.lst vs) → (∃ x1 x2 x3 x4, σ3 = [some v, some bv, some (.ref d), x1, x2, x3, x4]) → yU K P w H3 (.ref d) (tree (Pf ++ [x]) b) → (Rp T H0 H3 ∧ Tk H2 H3 ∧ H3 a = some (.lst vs) ∧ (∃ x1 x2 x3 x4, σ3 = [some v, some bv, some (.ref d), x1, x2, x3, x4]) ∧ yU K P w H3 (.ref d) (tree (L.take (i + 1)) b)) := fun q1 q2 q3 q4 q5 => ⟨q1, q2, q3, q4, by rw [take_grow hi, hP]; exact q5⟩
      have xs := tree_snoc Pf x b
      show tIfS _ _ _ _ ([some v, some bv, some (.ref d), some xv, x2, x3, x4] : L2.St) H'
      have vx : ∀ (H3 : Hp) (σ3 : L2.St), Tk H' H3 → σ3[3]? = some (some xv) → Ev T (ydd K) (tVar 3) σ3 H3 x := fun H3 σ3 q e => ev_var e (Imm.imm (Y := ydd K) q yx)
      cases hact : x.act with
      | bk c =>
        have e2 : tree (Pf ++ [x]) b = tree Pf b := by rw [xs]; unfold stepT; rw [hact]
        refine q_if (T := T) (c := false) (evT_eq (et_and (et_test (ev_eqT (ev_word (K := K) (P := P) (w := w) (a := x.act) (ev_act (K := K) (P := P) (w := w) (vx H' _ (Tk.refl _) rfl) ev_int) ev_int) ev_str (word_ok _) (by decide +kernel))) (b := true) fun q => absurd q (by rw [hact]; exact (by decide +kernel : ¬ (decide (("block" : Str) = "write") = true)))) (by rw [hact]; exact (by decide +kernel : (decide (("block" : Str) = "write") && true) = false))) (fun z => by cases z) fun _ H3 r3 => ?_
        exact en (rI.trans r3) (tk.trans r3.tk) (r3.lst ha') ⟨_, _, _, _, rfl⟩ (by rw [e2]; exact Mono.mono (T := T) r3 yt)
      | wr b' l r m =>
        have f := gx.last
        rw [hact] at f
        obtain ⟨fb, _, m1, m3⟩ := f
        have av : ∀ (H3 : Hp) (σ3 : L2.St), Tk H' H3 → σ3[3]? = some (some xv) → Ev T (yD K) (tOp (rSub K P w) (tVar 3) (tC (.int 3))) σ3 H3 (.tup [.text "write", tI b', oD l, oD r, .text (pre m)]) := fun H3 σ3 q e => by
          have z := ev_act (K := K) (P := P) (w := w) (vx H3 σ3 q e) ev_int
          rw [hact] at z
          exact z
        refine q_if (T := T) (c := decide (b' = b)) (evT_eq (et_and (et_test (ev_eqT (ev_DS (ev_suD (K := K) (P := P) (w := w) (d := .text "write") (av H' _ (Tk.refl _) rfl) ev_int rfl)) ev_str (by decide +kernel) (by decide +kernel))) fun _ => et_test (ev_eqk (ev_suD (K := K) (P := P) (w := w) (d := tI b') (av H' _ (Tk.refl _) rfl) ev_int rfl) (ev_var (i := 1) rfl (Mono.mono (T := T) (Y := yk K) rI y2)))) (by rw [decide_eq_true rfl, Bool.true_and])) (fun hb H3 r3 => ?_) (fun hb H3 r3 => ?_)
        · obtain rfl : b' = b := of_decide_eq_true hb
          have e2 : tree (Pf ++ [x]) b' = tree Pf b' ++ hang x (place (tree Pf b') l r) m := by rw [xs]; unfold stepT; rw [hact]; exact if_pos rfl
          obtain ⟨hl1, hr1⟩ := gx.lr hact
          have Bt := gx.init.tb b'
          have tl := small_tree gx.init lP b'
          have fr : ∀ k, sg x k ∉ keys (tree Pf b') := fun k => gx.fresh k
          refine q_set (T := T) (Y := yo K) (a := l) (ev_suD (K := K) (P := P) (w := w) (d := oD l) (av H3 _ r3.tk rfl) ev_int rfl) fun lv H4 r4 yl => ?_
          have r34 := r3.trans r4
          show tSeq (tAsg _ _) _ _ ([some v, some bv, some (.ref d), some xv, some lv, x3, x4] : L2.St) H4
          refine q_set (T := T) (Y := yo K) (a := r) (ev_suD (K := K) (P := P) (w := w) (d := oD r) (av H4 _ r34.tk rfl) ev_int rfl) fun rv H5 r5 yr => ?_
          have r35 := r34.trans r5
          have yl5 := Mono.mono (T := T) (Y := yo K) r5 yl
          have yt5 := Mono.mono (T := T) r35 yt
          show tFor _ _ _ _ ([some v, some bv, some (.ref d), some xv, some lv, some rv, x4] : L2.St) H5
          refine s_forR (T := T) (n := (m : Int)) (ea_int (ev_eq (ev_leS (K := K) (P := P) (w := w) (z := pre m) (ev_DS (ev_suD (K := K) (P := P) (w := w) (d := .text (pre m)) (av H5 ([some v, some bv, some (.ref d), some xv, some lv, some rv, x4]) r35.tk rfl) ev_int rfl)) (by rw [pre_len m1 m3]; exact Nat.le_trans m3 (by decide))) (by rw [pre_len m1 m3]))) (by omega) (by have : (3 : Int) < 2 ^ 62 := (by decide); omega) fun H6 r6 => ?_
          have r36 := r35.trans r6
          refine ⟨fun j σ' H7 => Rp T H0 H7 ∧ Tk H6 H7 ∧ H7 a = some (.lst vs) ∧ (∃ x4, σ' = [some v, some bv, some (.ref d), some xv, some lv, some rv, x4]) ∧ yU K P w H7 (.ref d) (tree Pf b' ++ hang x (place (tree Pf b') l r) j), ?_, ?_, ?_⟩
          · refine ⟨rI.trans r36, Tk.refl _, r36.lst ha', ⟨_, rfl⟩, ?_⟩
            have z := Mono.mono (T := T) r6 yt5
            unfold hang
            rw [List.range_zero, List.map_nil, List.append_nil]
            exact z
          · rintro j σ' H7 hj ⟨r7, tk7, ha7, ⟨x4', eσ⟩, yt7⟩
            subst eσ
            rw [Int.toNat_natCast] at hj
            have tk07 : Tk H' H7 := r36.tk.trans tk7
            show tIfS _ _ _ _ ([some v, some bv, some (.ref d), some xv, some lv, some rv, some (.int (j : Int))] : L2.St) H7
            generalize eS : ([some v, some bv, some (.ref d), some xv, some lv, some rv, some (.int (j : Int))] : L2.St) = σ7
            have s2 : σ7[2]? = some (some (.ref d)) := by rw [← eS]; rfl
            have s3 : σ7[3]? = some (some xv) := by rw [← eS]; rfl
            have s4 : σ7[4]? = some (some lv) := by rw [← eS]; rfl
            have s5 : σ7[5]? = some (some rv) := by rw [← eS]; rfl
            have s6 : σ7[6]? = some (some (.int (j : Int))) := by rw [← eS]; rfl
            have key : ∀ {te : TE} {i : Int} {H8 : Hp}, Tk H' H8 → Ev T yI te σ7 H8 i → Ev T (yk K) (tTup (tCons (tOp (rSub K P w) (tVar 3) (tC (.int 0))) (tCons (tOp (rSub K P w) (tVar 3) (tC (.int 1))) (tCons te tNil)))) σ7 H8 [x.h, x.n, i] := fun q h =>
              ev_tupk (k := [x.h, x.n, _]) (eds_cons (ev_h (K := K) (P := P) (w := w) (vx _ _ q s3) ev_int) (eds_cons (ev_n (K := K) (P := P) (w := w) (vx _ _ q s3) ev_int) (eds_cons h eds_nil))) (by show 3 ≤ sizeLine; decide)
            have fresh : sg x j ∉ keys (tree Pf b' ++ hang x (place (tree Pf b') l r) j) := fun z => by
              unfold keys at z
              rw [List.map_append] at z
              rcases List.mem_append.mp z with z | z
              · exact fr j z
              · rw [show (hang x (place (tree Pf b') l r) j).map (·.1) = (List.range j).map (sg x) from hang_keys x _ j] at z
                obtain ⟨i', h1, h2⟩ := List.mem_map.mp z
                have := (sg_inj h2).2
                have := List.mem_range.mp h1
                omega
            have lh : (tree Pf b' ++ hang x (place (tree Pf b') l r) j).length < 1000 := by
              unfold hang
              rw [List.length_append, List.length_map, List.length_range]
              omega
            have fin : ∀ H8, Rp T H0 H8 → Tk H7 H8 → (∀ a vs, H7 a = some (.lst vs) → H8 a = some (.lst vs)) → yU K P w H8 (.ref d) (tree Pf b' ++ hang x (place (tree Pf b') l r) (j + 1)) → (Rp T H0 H8 ∧ Tk H6 H8 ∧ H8 a = some (.lst vs) ∧ (∃ x4, σ7 = [some v, some bv, some (.ref d), some xv, some lv, some rv, x4]) ∧ yU K P w H8 (.ref d) (tree Pf b' ++ hang x (place (tree Pf b') l r) (j + 1))) := fun H8 q1 q2 q3 q4 => ⟨q1, tk7.trans q2, q3 _ _ ha7, ⟨_, eS.symm⟩, q4⟩
            refine q_if (T := T) (c := decide ((j : Int) > 0)) (et_test (ev_cmp (ev_var (i := 6) (Y := yI) (b := (j : Int)) s6 rfl) ev_int)) (fun c H8 r8 => ?_) (fun c H8 r8 => ?_)
            · have c := of_decide_eq_true c
              obtain ⟨j', rfl⟩ : ∃ j', j = j' + 1 := ⟨j - 1, by omega⟩
              have v6 : Ev T yI (tVar 6) σ7 H8 ((j' + 1 : Nat) : Int) := ev_var (i := 6) s6 rfl
              refine tree_put (T := T) (H0 := H0) (d := d) (t := tree Pf b' ++ hang x (place (tree Pf b') l r) (j' + 1)) (s := sg x (j' + 1)) (pl := (some (sg x j'), false)) (ev_pair (K := K) (Y := yo K) (Z := yS) (b := some (sg x j')) (c := "right") (ev_so (ev_ck (key (tk07.trans r8.tk) (ev_sub v6 ev_int)) (by unfold sg; congr 3; omega))) ev_str) (ev_var (i := 2) s2 rfl) (key (tk07.trans r8.tk) v6) (Mono.mono (T := T) r8 yt7) fresh lh (nd) (r7.trans r8) fun H9 q1 q2 q3 q4 => ?_
              refine fin H9 q1 (r8.tk.trans q2) (fun a vs h => q3 a vs (r8.lst h)) ?_
              rw [hang_succ, ← List.append_assoc, if_neg (Nat.succ_ne_zero _)]
              exact q4
            · have c := of_decide_eq_false c
              obtain rfl : j = 0 := by omega
              have e0 : tree Pf b' ++ hang x (place (tree Pf b') l r) 0 = tree Pf b' := by
                unfold hang
                rw [List.range_zero, List.map_nil, List.append_nil]
              rw [e0] at yt7 fresh lh
              have l4 : ∀ H9, Rp T H8 H9 → Ev T (yo K) (tVar 4) σ7 H9 l := fun H9 q => ev_var (i := 4) s4 (Imm.imm (Y := yo K) (r6.tk.trans (tk7.trans (r8.trans q).tk)) yl5)
              have r5' : ∀ H9, Rp T H8 H9 → Ev T (yo K) (tVar 5) σ7 H9 r := fun H9 q => ev_var (i := 5) s5 (Imm.imm (Y := yo K) (r6.tk.trans (tk7.trans (r8.trans q).tk)) yr)
              have fin0 : ∀ {pl : Pl} H9, pl = place (tree Pf b') l r → Rp T H0 H9 → Tk H7 H9 → (∀ a vs, H7 a = some (.lst vs) → H9 a = some (.lst vs)) → yU K P w H9 (.ref d) (tree Pf b' ++ [(sg x 0, pl)]) → (Rp T H0 H9 ∧ Tk H6 H9 ∧ H9 a = some (.lst vs) ∧ (∃ x4, σ7 = [some v, some bv, some (.ref d), some xv, some lv, some rv, x4]) ∧ yU K P w H9 (.ref d) (tree Pf b' ++ hang x (place (tree Pf b') l r) (0 + 1))) := fun H9 ep q1 q2 q3 q4 => fin H9 q1 q2 q3 (by
                rw [hang_succ, ← List.append_assoc, e0, if_pos rfl, ← ep]
                exact q4)
              have yt8 := Mono.mono (T := T) r8 yt7
              have test : EvT T (tAnd (tB (tNotN (tVar 5))) (tOr (tB (tIsN (tVar 4))) (tB (tCall (sp_law_above K P w T) [] E0 (tCons (tVar 2) (tCons (tVar 4) (tCons (tVar 5) tNil))))))) σ7 H8 (leftB (tree Pf b') l r) := by
                cases r with
                | none => exact evT_eq (et_and (et_B (ev_notN (d := oD none) (r5' H8 (Rp.refl _)))) (b := true) fun z => by cases z) rfl
                | some r' =>
                  cases l with
                  | none => exact evT_eq (et_and (et_B (ev_notN (d := oD (some r')) (r5' H8 (Rp.refl _)))) fun _ => et_or (et_B (ev_isN (d := oD none) (l4 H8 (Rp.refl _)))) (b := true) fun z => by cases z) rfl
                  | some l' => exact evT_eq (et_and (et_B (ev_notN (d := oD (some r')) (r5' H8 (Rp.refl _)))) fun _ => et_or (et_B (ev_isN (d := oD (some l')) (l4 H8 (Rp.refl _)))) fun _ => et_B (ev_c3 (T := T) (Y := yB) (f := fun p => anc (lu p.1) (p.1.length + 1) p.2.1 p.2.2) (pre := fun p => TB p.1 ∧ p.1.length ≤ 200 ∧ p.2.2 ∈ keys p.1) (Y1 := yU K P w) (Y2 := yk K) (Y3 := yk K) (a := tree Pf b') (b := l') (c := r') (ev_var (i := 2) s2 yt8) (l4 H8 (Rp.refl _)) (r5' H8 (Rp.refl _)) ⟨Bt, Nat.le_trans tl (by decide), hr1 r' rfl⟩)) rfl
              refine q_if (T := T) test (fun q H9 r9 => ?_) (fun q H9 r9 => ?_)
              · refine tree_put (T := T) (H0 := H0) (d := d) (t := tree Pf b') (s := sg x 0) (pl := (r, true)) (ev_pair (K := K) (Y := yo K) (Z := yS) (b := r) (c := "left") (r5' H9 r9) ev_str) (ev_var (i := 2) s2 rfl) (key (tk07.trans (r8.trans r9).tk) ev_int) (Mono.mono (T := T) r9 yt8) fresh lh nd (r7.trans (r8.trans r9)) fun H10 q1 q2 q3 q4 => ?_
                exact fin0 H10 (by rw [place_c, if_pos q]) q1 ((r8.trans r9).tk.trans q2) (fun a vs h => q3 a vs ((r8.trans r9).lst h)) q4
              · refine tree_put (T := T) (H0 := H0) (d := d) (t := tree Pf b') (s := sg x 0) (pl := (l, false)) (ev_pair (K := K) (Y := yo K) (Z := yS) (b := l) (c := "right") (l4 H9 r9) ev_str) (ev_var (i := 2) s2 rfl) (key (tk07.trans (r8.trans r9).tk) ev_int) (Mono.mono (T := T) r9 yt8) fresh lh nd (r7.trans (r8.trans r9)) fun H10 q1 q2 q3 q4 => ?_
                exact fin0 H10 (by rw [place_c, if_neg (by rw [q]; decide)]) q1 ((r8.trans r9).tk.trans q2) (fun a vs h => q3 a vs ((r8.trans r9).lst h)) q4
          · rintro σ' H7 ⟨r7, tk7, ha7, ⟨x4', eσ⟩, yt7⟩
            rw [Int.toNat_natCast] at yt7
            exact en r7 (tk.trans (r36.tk.trans tk7)) ha7 ⟨_, _, _, _, eσ⟩ (by rw [e2]; exact yt7)
        · have hb := of_decide_eq_false hb
          have e2 : tree (Pf ++ [x]) b = tree Pf b := by rw [xs]; unfold stepT; rw [hact]; exact if_neg hb
          exact en (rI.trans r3) (tk.trans r3.tk) (r3.lst ha') ⟨_, _, _, _, rfl⟩ (by rw [e2]; exact Mono.mono (T := T) r3 yt)
    · rintro σ' H' ⟨rI, tk, ha', ⟨x1, x2, x3, x4, eσ⟩, yt⟩
      subst eσ
      rw [List.take_length] at yt
      exact (rt_ret (T := T) (Y := yU K P w) (ev_var (i := 2) rfl yt)).go fun v4 H4 r4 y4 => kk v4 H4 (rI.trans r4) y4⟩
end
end K20
namespace K20
open PySem PySem.Spec PyProof.Rows L2
def kD (pl : Pl) : D := .tup [oD pl.1, .text (sideS pl.2)]
theorem kD_inj {p q : Pl} (h : kD p = kD q) : p = q := by
  obtain ⟨a, b⟩ := p
  obtain ⟨c, d⟩ := q
  have h1 := List.cons.inj (NestedKey.tup.inj h)
  have h2 := List.cons.inj h1.2
  have e2 : b = d := by
    have z : sideS b = sideS d := NestedKey.text.inj h2.1
    cases b <;> cases d
    · rfl
    · exact absurd z (by decide +kernel : ¬ (("right" : Str) = "left"))
    · exact absurd z (by decide +kernel : ¬ (("left" : Str) = "right"))
    · rfl
  have e1 : a = c := by
    have z : oD a = oD c := h1.1
    cases a <;> cases c
    · rfl
    · cases z
    · cases z
    · rw [tI_inj z]
  rw [e1, e2]
theorem kD_ok (p : Pl) : keyOk (kD p) = true := by
  obtain ⟨a, b⟩ := p
  unfold keyOk
  refine Bool.and_eq_true_iff.mpr ⟨?_, rfl⟩
  unfold okD
  refine Bool.and_eq_true_iff.mpr ⟨?_, ?_⟩
  · show (plainD (oD a) && (plainD (.text (sideS b)) && true)) = true
    have h1 : plainD (oD a) = true := (Bool.and_eq_true_iff.mp (oD_ok a)).1
    have h2 : plainD (.text (sideS b)) = true := by
      cases b
      · exact (by decide +kernel : plainD (.text "right") = true)
      · exact (by decide +kernel : plainD (.text "left") = true)
    rw [h1, h2]
    rfl
  · refine decide_eq_true ?_
    show (max (oD a).depth (max (NestedKey.depth (.text (sideS b))) 0)) + 1 ≤ 8
    have h1 : (oD a).depth ≤ 1 := by
      cases a with
      | none => exact Nat.zero_le _
      | some k => show (tI k).depth ≤ 1; rw [tI_depth]; exact Nat.le_refl _
    have h2 : NestedKey.depth (.text (sideS b)) = 0 := rfl
    rw [h2]
    omega
/-- the signs at a place -/
def grp (t : Tr) (pl : Pl) : List (List Int) := (t.filter fun e => decide (e.2 = pl)).map (·.1)
theorem grp_snoc (t : Tr) (s : List Int) (p pl : Pl) : grp (t ++ [(s, p)]) pl = grp t pl ++ if p = pl then [s] else [] := by
  unfold grp
  rw [List.filter_append, List.map_append]
  congr 1
  by_cases h : p = pl
  · rw [if_pos h, List.filter_cons_of_pos (by exact decide_eq_true h)]
    rfl
  · rw [if_neg h, List.filter_cons_of_neg (by rw [decide_eq_false h]; decide)]
    rfl
theorem grp_mem {t : Tr} {pl : Pl} {s : List Int} (h : s ∈ grp t pl) : s ∈ keys t := by
  obtain ⟨e, he, rfl⟩ := List.mem_map.mp h
  exact List.mem_map.mpr ⟨e, (List.mem_filter.mp he).1, rfl⟩
theorem grp_len (t : Tr) (pl : Pl) : (grp t pl).length ≤ t.length := by
  unfold grp
  rw [List.length_map]
  exact List.length_filter_le _ _
/-- the waiting ones as the law keeps them -/
def stW (st : List (List Int × Bool)) : List (List Int × Bool) := (st.map fun e => (e.1, !e.2)).reverse
theorem stW_op (s : List Int) (l r : List (List Int)) (st : List (List Int × Bool)) : stW (l.map (·, true) ++ (s, false) :: (r.map (·, true) ++ st)) = ((stW st ++ r.reverse.map (·, false)) ++ [(s, true)]) ++ l.reverse.map (·, false) := by
  have e : ∀ k : List (List Int), (k.map (·, true)).map (fun e : List Int × Bool => (e.1, !e.2)) = k.map (·, false) := fun k => by rw [List.map_map]; rfl
  unfold stW
  simp only [List.map_append, List.map_cons, e, List.reverse_append, List.reverse_cons, List.append_assoc, List.map_reverse]
  rfl
section
variable {P : Program} {w : World} {K : Fg} {mg : Str → Option Value} {base : Heap} {T : List (Addr × Str)} {H H' H0 H1 : Hp} {σ : L2.St} {te ta tb tl : TE}
theorem ev_sortTR {ks : List (List Int)} (h : Ev T (yL (yk K)) te σ H ks) (hn : ∀ k ∈ ks, k ≠ []) : Ev T (yL (yk K)) (tCKw (fun xs zs H Q => zs = [.bl true] ∧ rSortT K true xs H Q) (tCons te tNil) (tCons (tC (.bl true)) tNil)) σ H (sortI true ks) := fun H1 r1 Q q => h H1 r1 _ fun v H2 r2 ⟨a, vs, e, ha, la⟩ =>
  ⟨rfl, a, vs, ks, by rw [e], SqL.of ha, la, hn, fun c hc zs hz => q _ _ (r2.trans (Rp.new hc)) ⟨c, zs, rfl, upd_same, Paired.mapP hz fun _ _ y => Mono.mono (T := T) (Y := yk K) (Rp.new hc) y⟩⟩
theorem Ents.keep {d : Addr} {ks : List D} {o : Obj} (x : Ents K P w H d ks o) (h : H' d = H d) (tk : Tk H H') : Ents K P w H' d ks o := by
  obtain ⟨a, b, c, es, ep, qs, h1, h2, h3, h4⟩ := x
  exact ⟨by rw [h]; exact a, b, c, es, ep, qs, h1, h2, Paired.mapP h3 fun _ _ q => Dt.mono (fun _ _ s => tk K _ _ s) _ q, h4⟩
/-- for k in a dict that stays -/
theorem s_forKA {g : TG} {u : TS} {En : Ends} {a : Addr} {ks : List D} {o : Obj} (h : Ev T yV tl σ H (.ref a)) (en : Ents K P w H a ks o)
    (k : ∀ H2, Rp T H H2 → ∃ Pv : Nat → L2.St → Hp → Prop, Pv 0 σ H2 ∧ (∀ i σ' H', Pv i σ' H' → Ents K P w H' a ks o) ∧
      (∀ i q σ' H' x, ks[i]? = some q → Pv i σ' H' → Dt K H' x q → g x σ' H' fun σ3 H3 => u { En with nx := Pv (i + 1), ct := Pv (i + 1), bk := En.nx } σ3 H3) ∧ ∀ σ' H', Pv ks.length σ' H' → En.nx σ' H') :
    tFor (iKK K P w tl) g u En σ H := h H (Rp.refl _) _ fun v H2 r2 e => by
  obtain ⟨Pv, p0, pk, ps, pe⟩ := k H2 r2
  refine ⟨a, o, ks, e, en.rp r2, ?_⟩
  refine for_it (walk_kk (K := K) (P := P) (w := w) (d := a) (o := o) (ks := ks)) Pv p0 (fun i σ' H' _ p => pk i σ' H' p) (fun i x σ' H3 H4 hi p ⟨e1, q, hq, dq, _⟩ => ?_) (fun σ' H' p => pe σ' H' p)
  subst e1
  exact ps i q σ' H4 x hq p dq
theorem putK_le {κ : Type} [DecidableEq κ] (kvs : List (κ × V)) (k : κ) (v : V) : (putK kvs k v).length ≤ kvs.length + 1 := by
  unfold putK
  split
  · rw [List.length_map]
    exact Nat.le_succ _
  · rw [List.length_append]
    exact Nat.le_refl _
/-- the groups so far -/
def KI (K : Fg) (P : Program) (w : World) (H : Hp) (d : Addr) (t : Tr) : Prop := ∃ kvs : List (D × V), DictAt K P w H d kvs ∧ kvs.length ≤ t.length ∧ ∀ pl, (grp t pl = [] → valV kvs (kD pl) = none) ∧ (grp t pl ≠ [] → ∃ u, valV kvs (kD pl) = some u ∧ yL (yk K) H u (grp t pl))
theorem KI.rp {d : Addr} {t : Tr} (r : Rp T H H') (x : KI K P w H d t) : KI K P w H' d t := by
  obtain ⟨kvs, h1, h2, h3⟩ := x
  refine ⟨kvs, h1.rp r, h2, fun pl => ⟨(h3 pl).1, fun n => ?_⟩⟩
  obtain ⟨u, e, y⟩ := (h3 pl).2 n
  exact ⟨u, e, Mono.mono (T := T) r y⟩
theorem ev_plD {pl : Pl} (h : Ev T (ypo K) te σ H pl) : Ev T (yD K) te σ H (kD pl) := h.imp fun H1 v r ⟨a, x, y, e, s, h1, h2⟩ => by
  rw [e]
  have h2 : y = V.str (sideS pl.2) := h2
  rw [h2] at s
  exact .tup s (.cons h1 (.cons (.str _) .nil))
/-- kids.get(place, []) -/
theorem ev_kids {d : Addr} {t : Tr} {pl : Pl} {i : Nat} (e : σ[i]? = some (some (.ref d))) (x : KI K P w H d t) (h : Ev T (yD K) te σ H (kD pl)) : Ev T (yL (yk K)) (tKGet2 K P w (tVar i) te (tLst tNil)) σ H (grp t pl) := fun H1 r1 Q q => by
  obtain ⟨kvs, h1, h2, h3⟩ := x.rp r1
  refine ⟨.ref d, e, d, kvs, rfl, h1, h H1 r1 _ fun y H2 r2 dy => ⟨by show 0 ≤ sizeLine; decide, fun l hl => ?_⟩⟩
  have r3 : Rp T H2 (upd H2 l (.lst [])) := Rp.new hl
  refine ⟨kvs, kD pl, h1.rp (r2.trans r3), keyV_of (Mono.mono (T := T) (Y := yD K) r3 dy) (kD_ok _), ?_⟩
  by_cases n : grp t pl = []
  · rw [(h3 pl).1 n]
    exact q _ _ (r2.trans r3) ⟨l, [], rfl, upd_same, by rw [n]; exact .nil⟩
  · obtain ⟨u, eu, yu⟩ := (h3 pl).2 n
    rw [eu]
    exact q _ _ (r2.trans r3) (Mono.mono (T := T) (r2.trans r3) yu)
theorem yL_upd {d : Addr} {kvs : List (D × V)} {o : HO} {u : V} {ks : List (List Int)} (x : DictAt K P w H d kvs) (y : yL (yk K) H u ks) : yL (yk K) (upd H d o) u ks := by
  obtain ⟨a, vs, e, ha, l⟩ := y
  exact ⟨a, vs, e, by rw [upd_ne (raw_ne x ha lst_raw)]; exact ha, paired_imm x.tk l⟩
theorem sc__law_row : FnScope ["_law_up", "_law_kids", "_law_sign", "_law_waiting", "_law_made", "_law_k", "_law_is_open", "_law_one"] ["_law_up"] (defScope s__law_row) := ⟨rfl, rfl, rfl, by decide +kernel, rfl, by decide +kernel, by decide +kernel⟩
theorem bd__law_row (E : Tp K mg w T base) : Binds K E.d__law_row ["_law_up"] [] := E.F__law_row.bindsN fun _ _ _ _ _ _ us hl => match us, hl with | [_], _ => rfl
def sp_law_row (K : Fg) (P : Program) (w : World) (T : List (Addr × Str)) : Sp := PSp T (a1 (yU K P w)) (fun t => TB t ∧ t.length ≤ 200 ∧ ∀ s ∈ keys t, s ≠ []) (yL (yk K)) rowOf
/-- how the law's row stands -/
structure LR (T : List (Addr × Str)) (K : Fg) (H3 H : Hp) (t : Tr) (i : Nat) (wa ma : Addr) (st : List (List Int × Bool)) (out : List (List Int)) : Prop where
  rp : Rp T H3 H
  run : ∃ n, Runs t st out (rowOf t) n ∧ n + i ≤ 2 * t.length
  wt : ∃ ws, H wa = some (.lst ws) ∧ Paired (yst K H) ws (stW st)
  md : ∃ vs, H ma = some (.lst vs) ∧ Paired (yk K H) vs out
  nw : Nw H3 wa
  nm : Nw H3 ma
  ne : wa ≠ ma
theorem ev_wait {d : Addr} {t : Tr} {i j : Nat} {pl : Pl} (e : ∀ x, ((wipe σ [j]).set j (some x))[j]? = some (some x)) (hw : ∀ x, wipe ((wipe σ [j]).set j (some x)) [j] = wipe σ [j]) (ei : σ[i]? = some (some (.ref d))) (x : KI K P w H d t) (hne : ∀ s ∈ keys t, s ≠ []) (hl : t.length ≤ 200) (h : Ev T (yD K) te σ H (kD pl)) :
    Ev T (yLN H (yst K)) (tLc (iList K (tCKw (fun xs zs H Q => zs = [.bl true] ∧ rSortT K true xs H Q) (tCons (tKGet2 K P w (tVar i) te (tLst tNil)) tNil) (tCons (tC (.bl true)) tNil))) (gName j) tYes (tTup (tCons (tVar j) (tCons (tC (.bl false)) tNil))) [j]) σ H ((kids t pl.1 pl.2).reverse.map (·, false)) := by
  have hk : sortI true (grp t pl) = (kids t pl.1 pl.2).reverse := by rw [sortI_rev]; rfl
  rw [← hk]
  refine ev_lmN (T := T) (Y := yk K) (Z := yst K) (bs := sortI true (grp t pl)) (fun c => (c, false)) (evi_list (ev_sortTR (ev_kids ei x h) (fun s hs => hne s (grp_mem hs)))) (fun c _ u H1 _ yu => ev_pair (ev_var (e u) yu) ev_bl) hw ?_
  rw [(sortI_perm true (grp t pl)).length_eq]
  exact Nat.le_trans (grp_len t pl) (Nat.le_trans hl (by decide))
theorem kids_len (t : Tr) (p : Option (List Int)) (sd : Bool) : (kids t p sd).length ≤ t.length := by
  unfold kids
  rw [(sortI_perm false _).length_eq]
  exact grp_len t (p, sd)
theorem ok__law_row (E : Tp K mg w T base) : FnOk P w K mg base CX0 1 E.f__law_row E.d__law_row ["_law_up"] (sp_law_row K P w T) :=
  ok_rets E.F__law_row sc__law_row (fun _ _ _ h => len1 h) fun cdv Ar outer s H Ex hr => ⟨_, PSs.nox (pss_cons (ps_set (i := 1) sc__law_row.nd rfl (.inl rfl) (pe_knew)) (pss_cons (ps_for PassesOwn.never rfl (pi_kk (pv 0)) (pg_name (i := 2) sc__law_row.nd rfl (.inl rfl)) (pss_one (ps_asg (pe_op op_plus (pe_kget2 (hu9 hr) (pv 1) (pe_ix (ix_any (hu9 hr)) (pv 0) (pv 2) (fun _ _ => by rfl)) (pe_lst pa_nil) ⟨by rfl, by rfl, by rfl, by rfl⟩) (pe_lst (pa_cons (pv 2) pa_nil))) (pg_sub (pv 1) (pe_ix (ix_any (hu9 hr)) (pv 0) (pv 2) (fun _ _ => by rfl)) (set_k (hu9 hr)))))) (pss_cons (ps_setLc (i := 3) (own := [("_law_sign", 2)]) (g := gName 2) (tt := tYes) rfl sc__law_row.nd rfl rfl (sw_true rfl rfl rfl (by decide +kernel)) (pi_list (pe_callBK (cr_sortTR (hu9 hr)) (by rfl) E.sorted (by decide +kernel) (pa_cons (pe_kget2 (hu9 hr) (pv 1) (pe_tup (pa_cons pe_non (pa_cons pe_str pa_nil))) (pe_lst pa_nil) ⟨by rfl, by rfl, by rfl, by rfl⟩) pa_nil) (pk_cons pe_bl pk_nil))) (blkOk_by (own := [("_law_sign", 2)]) (N := ["_law_up", "_law_kids", "_law_sign", "_law_waiting", "_law_made", "_law_k", "_law_is_open", "_law_one"]) (sc := defScope s__law_row) (by decide +kernel)) (fun _ _ _ _ _ => (pg_name (i := 2) sc__law_row.nd rfl (.inl rfl))) (fun _ _ _ _ _ => pts_nil) (fun _ _ _ _ _ => (pe_tup (pa_cons (pv 2) (pa_cons pe_bl pa_nil))))) (pss_cons (ps_set (i := 4) sc__law_row.nd rfl (.inl rfl) (pe_lst pa_nil)) (pss_cons (ps_for PassesOwn.never rfl (pi_range1 (by rfl) E.range (pa_cons (pe_op op_plus (pe_op op_mulX pe_int (pe_callB call_lenU (by rfl) E.len (by decide +kernel) (pa_cons (pv 0) pa_nil))) pe_int) pa_nil)) (pg_name (i := 5) sc__law_row.nd rfl (.inl rfl)) (pss_cons (ps_if (pt_cmpR (op_eqK (hu64 hr)) (pe_callB call_lenU (by rfl) E.len (by decide +kernel) (pa_cons (pv 3) pa_nil)) pe_int (nomark _)) (pss_one ps_break) pss_nil) (pss_cons (ps_asg (pe_bm0 PySem.F.plainAttrs_list PySem.F.slot_list_pop PySem.F.type_list_pop mt_pop (pv 3)) (pg_tup rfl (pgs_cons (pg_name (i := 2) sc__law_row.nd rfl (.inl rfl)) (pgs_cons (pg_name (i := 6) sc__law_row.nd rfl (.inl rfl)) pgs_nil)))) (pss_one (ps_if (pt_val (pv 6)) (pss_one (ps_expr (pe_bm PySem.F.plainAttrs_list PySem.F.slot_list_append PySem.F.type_list_append mt_append (pv 4) (pa_cons (pv 2) pa_nil)))) (pss_cons (ps_set (i := 3) sc__law_row.nd rfl (.inl rfl) (pe_op op_plus (pv 3) (pe_lc (own := [("_law_one", 7)]) (g := gName 7) (tt := tYes) rfl sc__law_row.nd (pi_list (pe_callBK (cr_sortTR (hu9 hr)) (by rfl) E.sorted (by decide +kernel) (pa_cons (pe_kget2 (hu9 hr) (pv 1) (pe_tup (pa_cons (pv 2) (pa_cons pe_str pa_nil))) (pe_lst pa_nil) ⟨by rfl, by rfl, by rfl, by rfl⟩) pa_nil) (pk_cons pe_bl pk_nil))) (blkOk_by (own := [("_law_one", 7)]) (N := ["_law_up", "_law_kids", "_law_sign", "_law_waiting", "_law_made", "_law_k", "_law_is_open", "_law_one"]) (sc := defScope s__law_row) (by decide +kernel)) (fun _ _ _ _ _ => (pg_name (i := 7) sc__law_row.nd rfl (.inl rfl))) (fun _ _ _ _ _ => pts_nil) (fun _ _ _ _ _ => (pe_tup (pa_cons (pv 7) (pa_cons pe_bl pa_nil))))))) (pss_cons (ps_expr (pe_bm PySem.F.plainAttrs_list PySem.F.slot_list_append PySem.F.type_list_append mt_append (pv 3) (pa_cons (pe_tup (pa_cons (pv 2) (pa_cons pe_bl pa_nil))) pa_nil))) (pss_one (ps_set (i := 3) sc__law_row.nd rfl (.inl rfl) (pe_op op_plus (pv 3) (pe_lc (own := [("_law_one", 7)]) (g := gName 7) (tt := tYes) rfl sc__law_row.nd (pi_list (pe_callBK (cr_sortTR (hu9 hr)) (by rfl) E.sorted (by decide +kernel) (pa_cons (pe_kget2 (hu9 hr) (pv 1) (pe_tup (pa_cons (pv 2) (pa_cons pe_str pa_nil))) (pe_lst pa_nil) ⟨by rfl, by rfl, by rfl, by rfl⟩) pa_nil) (pk_cons pe_bl pk_nil))) (blkOk_by (own := [("_law_one", 7)]) (N := ["_law_up", "_law_kids", "_law_sign", "_law_waiting", "_law_made", "_law_k", "_law_is_open", "_law_one"]) (sc := defScope s__law_row) (by decide +kernel)) (fun _ _ _ _ _ => (pg_name (i := 7) sc__law_row.nd rfl (.inl rfl))) (fun _ _ _ _ _ => pts_nil) (fun _ _ _ _ _ => (pe_tup (pa_cons (pv 7) (pa_cons pe_bl pa_nil))))))))))))))) (pss_one (ps_ret (pv 4)))))))), fun vs t ⟨v, e, y1⟩ ⟨B, hl, hne⟩ => by
    subst e
    show Rets T (yL (yk K)) _ [some v, none, none, none, none, none, none, none] H (rowOf t)
    intro H0 r0 En kk
    have y1 := Mono.mono (T := T) r0 y1
    have hl : t.length ≤ 200 := hl
    have tv : ∀ (H1 : Hp) (σ' : L2.St), Rp T H0 H1 → σ'[0]? = some (some v) → Ev T (yU K P w) (tVar 0) σ' H1 t := fun H1 σ' q e => ev_var e (Mono.mono q y1)
    obtain ⟨ua, ukvs, ev, du, lu0⟩ := y1
    subst ev
    obtain ⟨o, en0⟩ := du.ents
    have ek : ukvs.map (·.1) = (keys t).map tI := (paired_keys lu0).trans (utab_keys t)
    rw [ek] at en0
    refine q_set (T := T) (Y := yKN K P w H0) (a := []) ev_knew fun dv H1 r1 ⟨d, ed, dd, nd⟩ => ?_
    subst ed
    show tSeq (tFor _ _ _) _ _ ([some (.ref ua), some (.ref d), none, none, none, none, none, none] : L2.St) H1
    refine s_forKA (T := T) (K := K) (P := P) (w := w) (a := ua) (ks := (keys t).map tI) (o := o) (ev_var (i := 0) rfl rfl) (en0.rp r1) fun H2 r2 => ?_
    refine ⟨fun i σ' H' => Rp T H0 H' ∧ (∃ x, σ' = [some (.ref ua), some (.ref d), x, none, none, none, none, none]) ∧ KI K P w H' d (t.take i), ⟨r1.trans r2, ⟨none, rfl⟩, [], dd.rp r2, Nat.zero_le _, fun pl => ⟨fun _ => rfl, fun n => absurd rfl n⟩⟩, fun i σ' H' p => en0.rp p.1, ?_, ?_⟩
    · rintro i q σ' H' xv hi ⟨rI, ⟨x, eσ⟩, ki⟩ dx
      subst eσ
      show tAsg _ _ _ ([some (.ref ua), some (.ref d), some xv, none, none, none, none, none] : L2.St) H'
      rw [List.getElem?_map] at hi
      obtain ⟨s, hs, eq⟩ := Option.map_eq_some_iff.mp hi
      subst eq
      have hs' := hs
      unfold keys at hs'
      rw [List.getElem?_map] at hs'
      obtain ⟨⟨s', pl⟩, ht, es⟩ := Option.map_eq_some_iff.mp hs'
      obtain rfl : s' = s := es
      have elu : lu t s' = some pl := mem_lu B.nd (List.mem_of_getElem? ht)
      have v2 : ∀ H3, Rp T H' H3 → Ev T (yk K) (tVar 2) [some (.ref ua), some (.ref d), some xv, none, none, none, none, none] H3 s' := fun H3 r => ev_var (i := 2) rfl (Mono.mono (T := T) (Y := yk K) r dx)
      have up : Ev T (ypo K) (tOp (rSub K P w) (tVar 0) (tVar 2)) [some (.ref ua), some (.ref d), some xv, none, none, none, none, none] H' pl := ev_suK (Z := ypo K) (g := pl) (ev_UM (tv H' _ rI rfl)) (ev_kD (v2 H' (Rp.refl _))) (keyI _) (by rw [lu_utab]; exact elu)
      have kiS := ki
      obtain ⟨kvs, d1, d2, d3⟩ := ki
      have tl : (t.take i).length ≤ 200 := Nat.le_trans (List.length_take_le' _ _) hl
      refine s_setK (T := T) (Y := yL (yk K)) (b := grp (t.take i) pl ++ [s']) (key := kD pl) (ev_plL (K := K) (Y := yk K) (ev_kids (K := K) (P := P) (w := w) (i := 1) rfl kiS (ev_plD up)) (ev_lst (eds_cons (v2 H' (Rp.refl _)) eds_nil) (by show 1 ≤ sizeLine; decide)) ?_) (ev_var (i := 1) rfl rfl) (ev_plD up) (kD_ok _) d1 ?_ fun u H3 o3 r3 y3 d3' d3'' => ?_
      · have := grp_len (t.take i) pl
        exact Nat.le_trans (by show (grp (t.take i) pl).length + 1 ≤ 300; omega) (by decide)
      · exact Nat.lt_of_le_of_lt (by omega : kvs.length ≤ 300) (by decide)
      · refine ⟨(rI.trans r3).chgDN nd d3', ⟨_, rfl⟩, putK kvs (kD pl) u, d3'', ?_, fun pl' => ?_⟩
        · rw [take_grow ht, List.length_append]
          exact Nat.le_trans (putK_le kvs (kD pl) u) (Nat.succ_le_succ d2)
        · rw [take_grow ht, grp_snoc, valV_put]
          by_cases h : pl = pl'
          · subst h
            rw [if_pos rfl, if_pos rfl]
            refine ⟨fun z => absurd z (by simp), fun _ => ⟨u, rfl, yL_upd d3' y3⟩⟩
          · rw [if_neg h, if_neg (fun z => h (kD_inj z).symm), List.append_nil]
            refine ⟨(d3 pl').1, fun n => ?_⟩
            obtain ⟨u', eu, yu⟩ := (d3 pl').2 n
            exact ⟨u', eu, yL_upd d3' (Mono.mono (T := T) r3 yu)⟩
    · rintro σ' H3 ⟨rI, ⟨x, eσ⟩, ki⟩
      subst eσ
      rw [List.length_map, show (keys t).length = t.length from List.length_map _, List.take_length] at ki
      dsimp only
      obtain ⟨n0, hn0, runs0, _⟩ := row_runs B
      refine q_set (T := T) (Y := yLN H3 (yst K)) (a := (kids t none false).reverse.map (·, false)) (ev_wait (K := K) (P := P) (w := w) (T := T) (i := 1) (j := 2) (pl := (none, false)) (fun _ => rfl) (fun _ => rfl) rfl ki hne hl (ev_tup (eds_cons ev_nonD (eds_cons ev_strD eds_nil)) (by show 2 ≤ sizeLine; decide))) fun wv H4 r4 ⟨wa, ws0, ew, hw, nw, pw⟩ => ?_
      subst ew
      show tSeq (tAsg _ _) _ _ ([some (.ref ua), some (.ref d), x, some (.ref wa), none, none, none, none] : L2.St) H4
      refine q_set (T := T) (Y := yLN H4 (yk K)) (a := ([] : List (List Int))) (ev_lstN eds_nil (by show 0 ≤ sizeLine; decide)) fun mv H5 r5 ⟨ma, vs0, em, hm, nm, pm⟩ => ?_
      subst em
      cases pm
      have nwm : wa ≠ ma := nm.ne hw (fun _ z => by cases z)
      have r35 := r4.trans r5
      show tSeq (tFor _ _ _) _ _ ([some (.ref ua), some (.ref d), x, some (.ref wa), some (.ref ma), none, none, none] : L2.St) H5
      have lr0 : LR T K H3 H5 t 0 wa ma ((kids t none false).map (·, true)) [] := ⟨r35, ⟨n0, runs0, hn0⟩, ⟨ws0, r5.lst hw, by
        have e : stW ((kids t none false).map (·, true)) = (kids t none false).reverse.map (·, false) := by
          unfold stW
          rw [List.map_map, ← List.map_reverse]
          rfl
        rw [e]
        exact paired_mono r5 pw⟩, ⟨[], hm, .nil⟩, nw, r4.nw nm, nwm⟩
      have fin : ∀ (σ' : L2.St) (H' : Hp) (i : Nat) (wa' : Addr) (out : List (List Int)), LR T K H3 H' t i wa' ma [] out → (∃ x k op one, σ' = [some (.ref ua), some (.ref d), x, some (.ref wa'), some (.ref ma), k, op, one]) → tRet (tVar 4) En σ' H' := by
        rintro σ' H' i wa' out lr ⟨x, k, op, one, rfl⟩
        obtain ⟨n, h, _⟩ := lr.run
        cases h
        obtain ⟨vs, h1, h2⟩ := lr.md
        exact ⟨.ref ma, rfl, kk _ H' (rI.trans lr.rp) ⟨ma, vs, rfl, h1, h2⟩⟩
      refine s_forR (T := T) (n := 3 * (t.length : Int) + 3) (ea_int (ev_pl (ev_mul ev_int (by
        have z := ev_leK (K := K) (P := P) (w := w) (ev_UM (tv H5 ([some (.ref ua), some (.ref d), x, some (.ref wa), some (.ref ma), none, none, none]) (rI.trans r35) rfl))
        rw [show (utab t).length = t.length from List.length_map _] at z
        exact z) (IntMulOk.of_left (by decide +kernel))) ev_int)) (by omega) (by have : (1000 : Int) < 2 ^ 62 := (by decide); omega) fun H6 r6 => ?_
      refine ⟨fun i σ' H' => ∃ wa' st out, LR T K H3 H' t i wa' ma st out ∧ ∃ x k op one, σ' = [some (.ref ua), some (.ref d), x, some (.ref wa'), some (.ref ma), k, op, one], ?_, ?_, ?_⟩
      · obtain ⟨ws, h1, h2⟩ := lr0.wt
        obtain ⟨vs, h3, h4⟩ := lr0.md
        exact ⟨wa, _, [], ⟨lr0.rp.trans r6, lr0.run, ⟨ws, r6.lst h1, paired_mono r6 h2⟩, ⟨vs, r6.lst h3, paired_mono r6 h4⟩, lr0.nw, lr0.nm, lr0.ne⟩, _, none, none, none, rfl⟩
      · rintro i σ' H' hi ⟨wa', st, out, lr, x', k', op, one, eσ⟩
        subst eσ
        show tSeq (tIfS _ _ _) _ _ ([some (.ref ua), some (.ref d), x', some (.ref wa'), some (.ref ma), some (.int (i : Int)), op, one] : L2.St) H'
        obtain ⟨n, hrun, hn⟩ := lr.run
        obtain ⟨ws, hws, pws⟩ := lr.wt
        obtain ⟨vs, hvs, pvs⟩ := lr.md
        refine q_ifs (T := T) (c := decide (((stW st).length : Int) = 0)) (et_test (ev_eqI (ev_leL (K := K) (P := P) (w := w) (ev_var (i := 3) (Y := yL (yst K)) rfl ⟨wa', ws, rfl, hws, pws⟩)) ev_int)) (fun q H7 r7 => ?_) (fun q H7 r7 => ?_)
        · have q := of_decide_eq_true q
          cases st with
          | cons e st => exact absurd q (by unfold stW; rw [List.length_reverse, List.length_map, List.length_cons]; omega)
          | nil => exact fin _ H7 i wa' out ⟨lr.rp.trans r7, lr.run, ⟨ws, r7.lst hws, paired_mono r7 pws⟩, ⟨vs, r7.lst hvs, paired_mono r7 pvs⟩, lr.nw, lr.nm, lr.ne⟩ ⟨_, _, _, _, rfl⟩
        · have q := of_decide_eq_false q
          cases st with
          | nil => exact absurd rfl q
          | cons e st =>
            have est : stW (e :: st) = stW st ++ [(e.1, !e.2)] := by
              unfold stW
              rw [List.map_cons, List.reverse_cons]
            rw [est] at pws
            obtain ⟨ws', y, ew, pt', yy⟩ := paired_unsnoc pws
            subst ew
            have hw7 := r7.lst hws
            refine ⟨.ref wa', rfl, .inl ⟨rfl, _, SqL.of hw7⟩, wa', ws' ++ [y], y, rfl, rfl, hw7, by rw [List.length_append]; simp, ?_⟩
            rw [List.dropLast_concat]
            have tk8 : Tk H7 (upd H7 wa' (.lst ws')) := Tk.updL hw7
            have rp8 : Rp T H3 (upd H7 wa' (.lst ws')) := (lr.rp.trans r7).chgLN lr.nw hw7
            have pt8 : Paired (yst K (upd H7 wa' (.lst ws'))) ws' (stW st) := paired_imm (r7.tk.trans tk8) pt'
            have pv8 : Paired (yk K (upd H7 wa' (.lst ws'))) vs out := paired_imm (r7.tk.trans tk8) pvs
            have hv8 : upd H7 wa' (.lst ws') ma = some (.lst vs) := by rw [upd_ne (Ne.symm lr.ne)]; exact r7.lst hvs
            have hw8 : upd H7 wa' (.lst ws') wa' = some (.lst ws') := upd_same
            have yy8 : yst K (upd H7 wa' (.lst ws')) y (e.1, !e.2) := Imm.imm (Y := yst K) (r7.tk.trans tk8) yy
            generalize upd H7 wa' (.lst ws') = H8 at rp8 pt8 pv8 hv8 hw8 yy8 ⊢
            obtain ⟨s, b⟩ := e
            obtain ⟨ya, w1, w2, ey, ys, k1, k2⟩ := yy8
            subst ey
            have k1 : yk K H8 w1 s := k1
            have k2 : w2 = V.bl (!b) := k2
            subst k2
            refine ⟨ya, _, rfl, ys, rfl, _, _, rfl, _, _, rfl, rfl, ?_⟩
            have sl := hrun.len
            have lst0 : (stW st).length = st.length := by
              unfold stW
              rw [List.length_reverse, List.length_map]
            have big : ∀ {j : Nat}, j ≤ 3000 → j ≤ sizeLine := fun h => Nat.le_trans h (by decide)
            rw [List.length_cons] at sl
            cases b with
            | true =>
              refine ⟨.bl false, rfl, false, rfl, iteF ?_⟩
              have lkr := kids_len t (some s) false
              have lkl := kids_len t (some s) true
              have w2' : ∀ (H9 : Hp) (σ' : L2.St), Rp T H8 H9 → σ'[2]? = some (some w1) → Ev T (yk K) (tVar 2) σ' H9 s := fun H9 σ' r e => ev_var e (Mono.mono (T := T) (Y := yk K) r k1)
              refine q_set (T := T) (Y := yLN H8 (yst K)) (a := stW st ++ (kids t (some s) false).reverse.map (·, false)) (ev_plLN (K := K) (Y := yst K) (ev_var (i := 3) (Y := yL (yst K)) rfl ⟨wa', ws', rfl, hw8, pt8⟩) (ev_N2L (ev_wait (K := K) (P := P) (w := w) (T := T) (i := 1) (j := 7) (pl := (some s, false)) (fun _ => rfl) (fun _ => rfl) rfl (ki.rp rp8) hne hl (ev_tup (eds_cons (ev_kD (w2' H8 _ (Rp.refl _) rfl)) (eds_cons ev_strD eds_nil)) (by show 2 ≤ sizeLine; decide)))) (by
                rw [List.length_map, List.length_reverse, lst0]
                exact big (by omega))) fun nv H9 r9 ⟨wb, us, en, hb, nb, pb⟩ => ?_
              subst en
              show tSeq (tDrop _) _ _ ([some (.ref ua), some (.ref d), some w1, some (.ref wb), some (.ref ma), some (.int (i : Int)), some (.bl false), one] : L2.St) H9
              refine s_append (T := T) (Y := yst K) (b := (s, true)) (l := wb) (xs := us) (σ := [some (.ref ua), some (.ref d), some w1, some (.ref wb), some (.ref ma), some (.int (i : Int)), some (.bl false), one]) (ev_var (i := 3) rfl rfl) (ev_pair (w2' H9 _ r9 rfl) ev_bl) hb (by
                rw [pb.length, List.length_append, List.length_map, List.length_reverse, lst0]
                exact Nat.lt_of_le_of_lt (by omega : _ ≤ 3000) (by decide)) fun av H10 r10 ya10 => ?_
              have nb3 : Nw H3 wb := rp8.nw nb
              have hb10 := r10.lst hb
              have tkA : Tk H10 (upd H10 wb (.lst (us ++ [av]))) := Tk.updL hb10
              have rpA : Rp T H3 (upd H10 wb (.lst (us ++ [av]))) := (rp8.trans (r9.trans r10)).chgLN nb3 hb10
              have nbm : wb ≠ ma := fun z => by
                rw [z] at nb
                obtain ⟨ps, z2⟩ := nb _ hv8
                cases z2
              have hbA : upd H10 wb (.lst (us ++ [av])) wb = some (.lst (us ++ [av])) := upd_same
              have hvA : upd H10 wb (.lst (us ++ [av])) ma = some (.lst vs) := by rw [upd_ne (Ne.symm nbm)]; exact (r9.trans r10).lst hv8
              have pbA : Paired (yst K (upd H10 wb (.lst (us ++ [av])))) (us ++ [av]) ((stW st ++ (kids t (some s) false).reverse.map (·, false)) ++ [(s, true)]) := paired_imm tkA (paired_snocG (paired_mono r10 pb) ya10)
              have tk8A := (r9.trans r10).tk.trans tkA
              have pvA := paired_imm tk8A pv8
              have k1A : yk K (upd H10 wb (.lst (us ++ [av]))) w1 s := Imm.imm (Y := yk K) tk8A k1
              generalize upd H10 wb (.lst (us ++ [av])) = HA at rpA hbA hvA pbA pvA k1A ⊢
              refine s_set (T := T) (Y := yLN HA (yst K)) (b := ((stW st ++ (kids t (some s) false).reverse.map (·, false)) ++ [(s, true)]) ++ (kids t (some s) true).reverse.map (·, false)) (σ := [some (.ref ua), some (.ref d), some w1, some (.ref wb), some (.ref ma), some (.int (i : Int)), some (.bl false), one]) (ev_plLN (K := K) (Y := yst K) (ev_var (i := 3) (Y := yL (yst K)) rfl ⟨wb, _, rfl, hbA, pbA⟩) (ev_N2L (ev_wait (K := K) (P := P) (w := w) (T := T) (i := 1) (j := 7) (pl := (some s, true)) (fun _ => rfl) (fun _ => rfl) rfl (ki.rp rpA) hne hl (ev_tup (eds_cons (ev_kD (ev_var (i := 2) rfl k1A)) (eds_cons ev_strD eds_nil)) (by show 2 ≤ sizeLine; decide)))) (by
                rw [List.length_append, List.length_append, List.length_map, List.length_map, List.length_reverse, List.length_reverse, lst0]
                exact big (by show _ + _ + 1 + _ ≤ 3000; omega))) fun nv2 HB rB ⟨wc, us2, en2, hc, nc, pc⟩ => ?_
              subst en2
              cases hrun with
              | op hrun2 =>
                rename_i n'
                refine ⟨wc, _, out, ⟨rpA.trans rB, ⟨n', hrun2, by omega⟩, ⟨us2, hc, ?_⟩, ⟨vs, rB.lst hvA, paired_mono rB pvA⟩, rpA.nw nc, lr.nm, fun z => by
                  rw [z] at nc
                  obtain ⟨ps, z2⟩ := nc _ hvA
                  cases z2⟩, _, _, _, _, rfl⟩
                rw [stW_op]
                exact pc
            | false =>
              refine ⟨.bl true, rfl, true, rfl, iteT ?_⟩
              refine s_append (T := T) (Y := yk K) (b := s) (l := ma) (xs := vs) (σ := [some (.ref ua), some (.ref d), some w1, some (.ref wa'), some (.ref ma), some (.int (i : Int)), some (.bl true), one]) (ev_var (i := 4) rfl rfl) (ev_var (i := 2) rfl k1) hv8 (by
                rw [pv8.length]
                have h2 := (row_len B)
                exact Nat.lt_of_le_of_lt (by omega : _ ≤ 3000) (by decide)) fun av H10 r10 ya10 => ?_
              have hm10 := r10.lst hv8
              have tkA : Tk H10 (upd H10 ma (.lst (vs ++ [av]))) := Tk.updL hm10
              cases hrun with
              | out hrun2 =>
                rename_i n'
                exact ⟨wa', st, out ++ [s], ⟨(rp8.trans r10).chgLN lr.nm hm10, ⟨n', hrun2, by omega⟩, ⟨ws', by rw [upd_ne lr.ne]; exact r10.lst hw8, paired_imm (r10.tk.trans tkA) pt8⟩, ⟨_, upd_same, paired_imm tkA (paired_snocG (paired_mono r10 pv8) ya10)⟩, lr.nw, lr.nm, lr.ne⟩, _, _, _, _, rfl⟩
      · rintro σ' H' ⟨wa', st, out, lr, x', k', op, one, eσ⟩
        obtain ⟨n, _, hn⟩ := lr.run
        have e : (3 * (t.length : Int) + 3).toNat = 3 * t.length + 3 := by omega
        rw [e] at hn
        omega⟩
end
end K20
namespace K20
open PySem PySem.Spec PyProof.Rows L2
mutual
def widD : D → Bool
  | .none => true
  | .num _ => true
  | .text _ => true
  | .tup l => decide (l.length ≤ 5000) && widL l
def widL : List D → Bool
  | [] => true
  | d :: ds => widD d && widL ds
end
theorem widL_mem : ∀ {l : List D} {d : D}, widL l = true → d ∈ l → widD d = true
  | e :: l, d, h, m => by
    obtain ⟨h1, h2⟩ := Bool.and_eq_true_iff.mp h
    rcases List.mem_cons.mp m with z | m
    · rw [z]; exact h1
    · exact widL_mem h2 m
theorem plainL_mem : ∀ {l : List D} {d : D}, plainL l = true → d ∈ l → plainD d = true
  | e :: l, d, h, m => by
    obtain ⟨h1, h2⟩ := Bool.and_eq_true_iff.mp h
    rcases List.mem_cons.mp m with z | m
    · rw [z]; exact h1
    · exact plainL_mem h2 m
theorem depth_mem : ∀ {l : List D} {d : D}, d ∈ l → d.depth ≤ NestedKey.depthAll l
  | e :: l, d, m => by
    show d.depth ≤ max e.depth (NestedKey.depthAll l)
    rcases List.mem_cons.mp m with z | m
    · rw [z]; exact Nat.le_max_left _ _
    · exact Nat.le_trans (depth_mem m) (Nat.le_max_right _ _)
theorem okD_mem {l : List D} {d : D} (h : okD (.tup l) = true) (m : d ∈ l) : okD d = true := by
  obtain ⟨h1, h2⟩ := Bool.and_eq_true_iff.mp h
  have h2 : NestedKey.depthAll l + 1 ≤ 8 := of_decide_eq_true h2
  exact Bool.and_eq_true_iff.mpr ⟨plainL_mem h1 m, decide_eq_true (by have := depth_mem m; omega)⟩
theorem widL_all : ∀ {l : List D}, (∀ d ∈ l, widD d = true) → widL l = true
  | [], _ => rfl
  | e :: l, h => Bool.and_eq_true_iff.mpr ⟨h e List.mem_cons_self, widL_all fun d m => h d (List.mem_cons_of_mem _ m)⟩
theorem plainL_all : ∀ {l : List D}, (∀ d ∈ l, plainD d = true) → plainL l = true
  | [], _ => rfl
  | e :: l, h => Bool.and_eq_true_iff.mpr ⟨h e List.mem_cons_self, plainL_all fun d m => h d (List.mem_cons_of_mem _ m)⟩
theorem depth_all {n : Nat} : ∀ {l : List D}, (∀ d ∈ l, d.depth ≤ n) → NestedKey.depthAll l ≤ n
  | [], _ => Nat.zero_le _
  | e :: l, h => Nat.max_le.mpr ⟨h e List.mem_cons_self, depth_all fun d m => h d (List.mem_cons_of_mem _ m)⟩
theorem wid_tI {k : List Int} (h : k.length ≤ 5000) : widD (tI k) = true := by
  refine Bool.and_eq_true_iff.mpr ⟨decide_eq_true (by rw [List.length_map]; exact h), widL_all fun d m => ?_⟩
  obtain ⟨i, _, e⟩ := List.mem_map.mp m
  rw [← e]
  rfl
/-- what may be compared by the law, not deeper than n -/
def SoD (n : Nat) (d : D) : Prop := okD d = true ∧ widD d = true ∧ d.depth ≤ n
theorem so_pl (pl : Pl) (h : ∀ s, pl.1 = some s → s.length ≤ 5000) : SoD 2 (kD pl) := by
  refine ⟨(Bool.and_eq_true_iff.mp (kD_ok pl)).1, ?_, ?_⟩
  · show (decide ((2 : Nat) ≤ 5000) && widL [oD pl.1, .text (sideS pl.2)]) = true
    refine Bool.and_eq_true_iff.mpr ⟨by decide, widL_all fun d m => ?_⟩
    rcases List.mem_cons.mp m with z | m
    · rw [z]
      cases hp : pl.1 with
      | none => rfl
      | some s => exact wid_tI (h s hp)
    · rw [List.mem_singleton.mp m]
      rfl
  · show max (oD pl.1).depth (max (NestedKey.depth (.text (sideS pl.2))) 0) + 1 ≤ 2
    have h1 : (oD pl.1).depth ≤ 1 := by
      cases pl.1 with
      | none => exact Nat.zero_le _
      | some k => show (tI k).depth ≤ 1; rw [tI_depth]; exact Nat.le_refl _
    have h2 : NestedKey.depth (.text (sideS pl.2)) = 0 := rfl
    omega
theorem so_row {ks : List (List Int)} (h1 : ks.length ≤ 5000) (h2 : ∀ k ∈ ks, k.length ≤ 5000) : SoD 2 (.tup (ks.map tI)) := by
  have dm : ∀ d ∈ ks.map tI, d.depth ≤ 1 := fun d m => by
    obtain ⟨k, _, e⟩ := List.mem_map.mp m
    rw [← e, tI_depth]
    exact Nat.le_refl _
  refine ⟨Bool.and_eq_true_iff.mpr ⟨plainL_all fun d m => ?_, decide_eq_true ?_⟩, Bool.and_eq_true_iff.mpr ⟨decide_eq_true (by rw [List.length_map]; exact h1), widL_all fun d m => ?_⟩, ?_⟩
  · obtain ⟨k, _, e⟩ := List.mem_map.mp m
    rw [← e]
    exact (Bool.and_eq_true_iff.mp (tI_ok k)).1
  · show NestedKey.depthAll (ks.map tI) + 1 ≤ 8
    have := depth_all dm
    omega
  · obtain ⟨k, hk, e⟩ := List.mem_map.mp m
    rw [← e]
    exact wid_tI (h2 k hk)
  · show NestedKey.depthAll (ks.map tI) + 1 ≤ 2
    have := depth_all dm
    omega
section
variable {P : Program} {w : World} {K : Fg} {mg : Str → Option Value} {base : Heap} {T : List (Addr × Str)} {H H' H0 H1 : Hp} {σ : L2.St} {te ta tb tl : TE}
theorem sc__law_so : FnScope ["_law_found", "_law_meant", "_law_k"] ["_law_found", "_law_meant"] (defScope s__law_so) := ⟨rfl, rfl, rfl, by decide +kernel, rfl, by decide +kernel, by decide +kernel⟩
theorem bd__law_so (E : Tp K mg w T base) : Binds K E.d__law_so ["_law_found", "_law_meant"] [] := E.F__law_so.bindsN fun _ _ _ _ _ _ us hl => match us, hl with | [_, _], _ => rfl
def sp_so (K : Fg) (T : List (Addr × Str)) : Nat → Sp
  | 0 => fun _ _ _ _ => False
  | n + 1 => PSp T (a2 (yD K) (yD K)) (fun p => p.1 = p.2 ∧ SoD n p.1) yB fun _ => true
theorem ok__law_so (E : Tp K mg w T base) : ∀ n, FnOk P w K mg base CX0 n E.f__law_so E.d__law_so ["_law_found", "_law_meant"] (sp_so K T n)
  | 0 => ⟨fun _ _ _ _ h => h.elim, fun _ _ _ _ _ _ _ _ _ _ _ _ _ h => h.elim⟩
  | n + 1 => by
    have ih := ok__law_so E n
    exact ok_rets E.F__law_so sc__law_so (fun _ _ _ h => len2 h) fun cdv Ar outer s H Ex hr => ⟨_, PSs.nox (pss_cons (ps_if (pt_cmp (pc_isN (pv 1)) rfl) (pss_one (ps_ret (pe_cmp (pc_isN (pv 0)) rfl))) pss_nil) (pss_cons (ps_if (pt_val (pe_callB call_isi (by rfl) E.isinstance (by decide +kernel) (pa_cons (pv 1) (pa_cons (pe_bltn (v := .ty "bool") (u := .type "bool") (by rfl) E.bool (by decide +kernel) rfl) pa_nil)))) (pss_one (ps_ret (pe_and (pe_callB call_isi (by rfl) E.isinstance (by decide +kernel) (pa_cons (pv 0) (pa_cons (pe_bltn (v := .ty "bool") (u := .type "bool") (by rfl) E.bool (by decide +kernel) rfl) pa_nil))) (pe_one (pe_cmpR (op_eqK (hu64 hr)) (pv 0) (pv 1) (nomark _)))))) pss_nil) (pss_cons (ps_if (pt_val (pe_callB call_isi (by rfl) E.isinstance (by decide +kernel) (pa_cons (pv 1) (pa_cons (pe_bltn (v := .ty "int") (u := .type "int") (by rfl) E.int (by decide +kernel) rfl) pa_nil)))) (pss_one (ps_ret (pe_and (pe_callB call_isi (by rfl) E.isinstance (by decide +kernel) (pa_cons (pv 0) (pa_cons (pe_bltn (v := .ty "int") (u := .type "int") (by rfl) E.int (by decide +kernel) rfl) pa_nil))) (pe_and (pe_not (pe_callB call_isi (by rfl) E.isinstance (by decide +kernel) (pa_cons (pv 0) (pa_cons (pe_bltn (v := .ty "bool") (u := .type "bool") (by rfl) E.bool (by decide +kernel) rfl) pa_nil)))) (pe_one (pe_cmpR (op_eqK (hu64 hr)) (pv 0) (pv 1) (nomark _))))))) pss_nil) (pss_cons (ps_if (pt_val (pe_callB call_isi (by rfl) E.isinstance (by decide +kernel) (pa_cons (pv 1) (pa_cons (pe_bltn (v := .ty "str") (u := .type "str") (by rfl) E.str (by decide +kernel) rfl) pa_nil)))) (pss_one (ps_ret (pe_and (pe_callB call_isi (by rfl) E.isinstance (by decide +kernel) (pa_cons (pv 0) (pa_cons (pe_bltn (v := .ty "str") (u := .type "str") (by rfl) E.str (by decide +kernel) rfl) pa_nil))) (pe_one (pe_cmpR (op_eqK (hu64 hr)) (pv 0) (pv 1) (nomark _)))))) pss_nil) (pss_cons (ps_if (PW.pt (pw_or (pt_not (pt_val (pe_callB call_isi (by rfl) E.isinstance (by decide +kernel) (pa_cons (pv 1) (pa_cons (pe_bltn (v := .ty "tuple") (u := .type "tuple") (by rfl) E.tuple (by decide +kernel) rfl) pa_nil))))) (pw_or (pt_not (pt_val (pe_callB call_isi (by rfl) E.isinstance (by decide +kernel) (pa_cons (pv 0) (pa_cons (pe_bltn (v := .ty "tuple") (u := .type "tuple") (by rfl) E.tuple (by decide +kernel) rfl) pa_nil))))) (pw_or1 (pt_cmpR (op_neK (hu64 hr)) (pe_callB call_lenU (by rfl) E.len (by decide +kernel) (pa_cons (pv 0) pa_nil)) (pe_callB call_lenU (by rfl) E.len (by decide +kernel) (pa_cons (pv 1) pa_nil)) (nomark _)))))) (pss_one (ps_ret pe_bl)) pss_nil) (pss_cons (ps_for PassesOwn.never rfl (pi_range1 (by rfl) E.range (pa_cons (pe_callB call_lenU (by rfl) E.len (by decide +kernel) (pa_cons (pv 1) pa_nil)) pa_nil)) (pg_name (i := 2) sc__law_so.nd rfl (.inl rfl)) (pss_one (ps_if (pt_not (pt_val (pe_call ih hr (by rfl) E.g__law_so E.F__law_so.kp (bd__law_so E) .nil pass0 (pa_cons (pe_ix (ix_any (hu9 hr)) (pv 0) (pv 2) (fun _ _ => by rfl)) (pa_cons (pe_ix (ix_any (hu9 hr)) (pv 1) (pv 2) (fun _ _ => by rfl)) pa_nil))))) (pss_one (ps_ret pe_bl)) pss_nil))) (pss_one (ps_ret pe_bl)))))))), fun vs p ⟨v, u, e, y1, y2⟩ ⟨ep, so⟩ => by
      subst e
      obtain ⟨d, d'⟩ := p
      obtain rfl : d = d' := ep
      have y1 : yD K H v d := y1
      have y2 : yD K H u d := y2
      have so : SoD n d := so
      show Rets T yB _ [some v, some u, none] H true
      have v1 : Ev T (yD K) (tVar 0) [some v, some u, none] H d := ev_var (i := 0) rfl y1
      have v2 : Ev T (yD K) (tVar 1) [some v, some u, none] H d := ev_var (i := 1) rfl y2
      cases d with
      | none => exact rt_yes (et_B (ev_isN v2)) (rt_retS (ev_isN v1))
      | num i =>
        refine rt_no (et_B (ev_isN v2)) ?_
        refine rt_no (et_B (ev_isi v2 (kt_num_bool _))) ?_
        refine rt_yes (et_B (ev_isi v2 (kt_num_int _))) (rt_retS ?_)
        exact ev_eq (ev_andV (ev_isi v1 (kt_num_int _)) fun _ => ev_andV (ev_notV (ev_isi v1 (kt_num_bool _))) fun _ => ev_eqK (K := K) v1 v2 so.1 so.1) (by rw [decide_eq_true rfl]; rfl)
      | text x =>
        refine rt_no (et_B (ev_isN v2)) ?_
        refine rt_no (et_B (ev_isi v2 (kt_text_bool _))) ?_
        refine rt_no (et_B (ev_isi v2 (kt_text_int _))) ?_
        refine rt_yes (et_B (ev_isi v2 (kt_text_str _))) (rt_retS ?_)
        exact ev_eq (ev_andV (ev_isi v1 (kt_text_str _)) fun _ => ev_eqK (K := K) v1 v2 so.1 so.1) (by rw [decide_eq_true rfl]; rfl)
      | tup ds =>
        refine rt_no (et_B (ev_isN v2)) ?_
        refine rt_no (et_B (ev_isi v2 (kt_tup_bool _))) ?_
        refine rt_no (et_B (ev_isi v2 (kt_tup_int _))) ?_
        refine rt_no (et_B (ev_isi v2 (kt_tup_str _))) ?_
        refine rt_no (evT_eq (et_or (et_not (et_B (ev_isi v2 (kt_tup_tuple _)))) fun _ => et_or (et_not (et_B (ev_isi v1 (kt_tup_tuple _)))) fun _ => et_test (ev_neI (ev_leD (K := K) (P := P) (w := w) v1) (ev_leD (K := K) (P := P) (w := w) v2))) (by rw [decide_eq_true rfl]; rfl)) ?_
        obtain ⟨so1, so2, so3⟩ := so
        obtain ⟨w1, w2⟩ := Bool.and_eq_true_iff.mp so2
        have w1 := of_decide_eq_true w1
        have so3 : NestedKey.depthAll ds + 1 ≤ n := so3
        obtain ⟨m, rfl⟩ : ∃ m, n = m + 1 := ⟨n - 1, by omega⟩
        intro H1 r1 En k
        refine f_for (T := T) (Y := yI) (bs := (List.range ds.length).map fun (i : Nat) => (i : Int)) (evi_range (n := ((ds.length : Nat) : Int)) (ea_int ((ev_leD (K := K) (P := P) (w := w) v2).mono r1)) (by omega) (by have : (5001 : Int) < 2 ^ 62 := (by decide); omega)) (fun i σ' => ∃ o, σ' = [some v, some u, o]) ⟨none, rfl⟩ fun H2 r2 => ⟨?_, ?_⟩
        · rintro i b σ' H' x hi r3 ⟨o, eσ⟩ ex
          subst eσ
          obtain rfl : x = V.int b := ex
          obtain ⟨j, hj, ej⟩ := List.mem_map.mp (List.mem_of_getElem? hi)
          have hj := List.mem_range.mp hj
          subst ej
          have r13 := r1.trans (r2.trans r3)
          have hd : atI ds (j : Int) = some ds[j] := atI_nat (List.getElem?_eq_getElem hj)
          have hm : ds[j] ∈ ds := List.getElem_mem hj
          show tIfS _ _ _ _ ([some v, some u, some (.int (j : Int))] : L2.St) H'
          have v1' : Ev T (yD K) (tVar 0) [some v, some u, some (.int (j : Int))] H' (.tup ds) := ev_var (i := 0) rfl (Mono.mono (T := T) (Y := yD K) r13 y1)
          have v2' : Ev T (yD K) (tVar 1) [some v, some u, some (.int (j : Int))] H' (.tup ds) := ev_var (i := 1) rfl (Mono.mono (T := T) (Y := yD K) r13 y2)
          refine q_if (T := T) (c := false) (evT_eq (et_not (et_B (ev_c2 (T := T) (Y := yB) (f := fun _ => true) (pre := fun p => p.1 = p.2 ∧ SoD m p.1) (Y1 := yD K) (Y2 := yD K) (a := ds[j]) (b := ds[j]) (E := E0) (ev_suD (K := K) (P := P) (w := w) v1' (ev_var (i := 2) rfl rfl) hd) (ev_suD (K := K) (P := P) (w := w) v2' (ev_var (i := 2) rfl rfl) hd) ⟨rfl, okD_mem so1 hm, widL_mem w2 hm, by have := depth_mem hm; show ds[j].depth ≤ m; omega⟩))) rfl) (fun z => by cases z) fun _ H4 r4 => ⟨r3.trans r4, _, rfl⟩
        · rintro σ' H' r3 ⟨o, eσ⟩
          exact (rt_ret (T := T) (Y := yB) (σ := σ') ev_bl).go fun v4 H4 r4 y4 => k v4 H4 (r2.trans (r3.trans r4)) y4⟩
end
end K20
namespace K20
open PySem PySem.Spec PyProof.Rows L2
theorem places_block {L : List Deed} {b : List Int} (h : b ∈ placesF L) : IsBlock L b := by
  rcases List.mem_cons.mp h with h | h
  · exact .inl h
  · obtain ⟨x, hx, e⟩ := List.mem_map.mp h
    obtain ⟨h1, h2⟩ := List.mem_filter.mp hx
    refine .inr ⟨x, h1, e, ?_⟩
    unfold isW at h2
    cases ha : x.act with
    | bk c => exact ⟨c, rfl⟩
    | wr b l r m =>
      rw [ha] at h2
      exact absurd (of_decide_eq_true h2) (by decide +kernel : ¬ (("write" : Str) = "block"))
section
variable {P : Program} {w : World} {K : Fg} {mg : Str → Option Value} {base : Heap} {T : List (Addr × Str)} {H H' H0 H1 : Hp} {σ : L2.St} {te ta tb tl : TE} {Wk : L2.St → XK}
theorem ev_rowof {E : Tp K mg w T base} {v : V} {S L : List Deed} {b : List Int} {i : Nat} (e : σ[i]? = some (some v)) (to : Told K T H v S L) (ib : IsBlock L b) (hb : Ev T (yk K) tb σ H b) :
    Ev T (yT K (yk K)) (tCallS (sp_rowof E P) Wk (tCons (tVar i) (tCons tb tNil))) σ H (line L b) := fun H1 r1 Q q =>
  ⟨v, e, hb H1 r1 _ fun bv H2 r2 yb => ⟨v, bv, S, L, b, rfl, to.rp (r1.trans r2), yb, fun _ H' u r y => q u H' (r2.trans r) y, fun nb => absurd ib nb⟩⟩
theorem ev_parentof {E : Tp K mg w T base} {v : V} {S L : List Deed} {b s : List Int} {pl : Pl} {i : Nat} (e : σ[i]? = some (some v)) (to : Told K T H v S L) (h : lu (tree L b) s = some pl) (hs : Ev T (yk K) tb σ H s) :
    Ev T (ypo K) (tCallS (sp_parent E P) Wk (tCons (tVar i) (tCons tb tNil))) σ H pl := fun H1 r1 Q q =>
  ⟨v, e, hs H1 r1 _ fun sv H2 r2 ys => ⟨v, sv, S, L, s, rfl, to.rp (r1.trans r2), ys, fun b' pl' h' H' u r y => q u H' (r2.trans r) (by
    have k1 := lu_key h
    have k2 := lu_key h'
    obtain rfl := one_block to.g k1 k2
    rw [h] at h'
    cases h'
    exact y), fun n => absurd (mem_ctree.mpr ⟨b, lu_key h⟩) n⟩⟩
theorem ev_rowD {ks : List (List Int)} (h : Ev T (yT K (yk K)) te σ H ks) : Ev T (yD K) te σ H (.tup (ks.map tI)) := h.imp fun H1 v r ⟨a, vs, e, s, l⟩ => by
  rw [e]
  exact .tup s (go l)
where go {H : Hp} : ∀ {vs : List V} {ks : List (List Int)}, Paired (yk K H) vs ks → DtL K H vs (ks.map tI)
  | _, _, .nil => .nil
  | _, _, .cons a t => .cons a (go t)
theorem ev_soD {n : Nat} {d : D} (h1 : Ev T (yD K) ta σ H d) (h2 : Ev T (yD K) tb σ H d) (so : SoD n d) : Ev T yB (tCall (sp_so K T (n + 1)) [] E0 (tCons ta (tCons tb tNil))) σ H true :=
  ev_eq (ev_c2 (T := T) (Y := yB) (f := fun _ => true) (pre := fun p => p.1 = p.2 ∧ SoD n p.1) (Y1 := yD K) (Y2 := yD K) (a := d) (b := d) h1 h2 ⟨rfl, so⟩) rfl
theorem sc__law_agrees : FnScope ["_law_told", "_law_deeds", "_law_block", "_law_up", "_law_line", "_law_sign"] ["_law_told", "_law_deeds"] (defScope s__law_agrees) := ⟨rfl, rfl, rfl, by decide +kernel, rfl, by decide +kernel, by decide +kernel⟩
theorem bd__law_agrees (E : Tp K mg w T base) : Binds K E.d__law_agrees ["_law_told", "_law_deeds"] [] := E.F__law_agrees.bindsN fun _ _ _ _ _ _ us hl => match us, hl with | [_, _], _ => rfl
def sp_agrees (E : Tp K mg w T base) (P : Program) : Sp := fun vs H Q _ => ∃ (v u : V) (S L : List Deed), vs = [v, u] ∧ Told K T H v S L ∧ yL (ydd K) H u L ∧ ∀ H', Rp T H H' → Q (.bl true) H'
theorem ok__law_agrees (E : Tp K mg w T base) : FnOk P w K mg base CX0 15 E.f__law_agrees E.d__law_agrees ["_law_told", "_law_deeds"] (sp_agrees E P) := by
  refine E.F__law_agrees.ok sc__law_agrees (fun vs H Q Ex h => ?_) (fun cdv Ar outer s H vs Q Ex hr h => ⟨_, PSs.nox (pss_cons (ps_for PassesOwn.never rfl (pi_list (pe_call (ok__law_places (T := T) E) (hr.mono (by decide)) (by rfl) E.g__law_places E.F__law_places.kp (bd__law_places E) .nil pass0 (pa_cons (pv 1) pa_nil))) (pg_name (i := 2) sc__law_agrees.nd rfl (.inl rfl)) (pss_cons (ps_set (i := 3) sc__law_agrees.nd rfl (.inl rfl) (pe_call (ok__law_tree (T := T) E) (hr.mono (by decide)) (by rfl) E.g__law_tree E.F__law_tree.kp (bd__law_tree E) .nil pass0 (pa_cons (pv 1) (pa_cons (pv 2) pa_nil)))) (pss_cons (ps_set (i := 4) sc__law_agrees.nd rfl (.inl rfl) (pe_callTy call_tuple_of (by rfl) E.tuple (by decide +kernel) (pa_cons (pe_call (ok__law_row (T := T) E) (hr.mono (by decide)) (by rfl) E.g__law_row E.F__law_row.kp (bd__law_row E) .nil pass0 (pa_cons (pv 3) pa_nil)) pa_nil))) (pss_cons (ps_if (PW.pt (pw_or (pt_cmpR (op_neK (hu64 hr)) (pe_callB call_lenU (by rfl) E.len (by decide +kernel) (pa_cons (pv 4) pa_nil)) (pe_callB call_lenU (by rfl) E.len (by decide +kernel) (pa_cons (pv 3) pa_nil)) (nomark _)) (pw_or (pt_not (pt_val (pe_call (ok__law_so (T := T) E 3) (hr.mono (by decide)) (by rfl) E.g__law_so E.F__law_so.kp (bd__law_so E) .nil pass0 (pa_cons (pe_callS (ok_row_of (T := T) E) (hr.mono (by decide)) (by rfl) E.g_row_of E.F_row_of.kp (bd_row_of E) (fun σ => passAt (takes0 (X := _)) σ) (pa_cons (pv 0) (pa_cons (pv 2) pa_nil))) (pa_cons (pv 4) pa_nil))))) (pw_or1 (pt_not (pt_val (pe_call (ok__law_so (T := T) E 3) (hr.mono (by decide)) (by rfl) E.g__law_so E.F__law_so.kp (bd__law_so E) .nil pass0 (pa_cons (pe_callS (ok_open_row_signs (T := T) E) (hr.mono (by decide)) (by rfl) E.g_open_row_signs E.F_open_row_signs.kp (bd_open_row_signs E) (fun σ => passAt (takes0 (X := _)) σ) (pa_cons (pv 0) (pa_cons (pv 2) pa_nil))) (pa_cons (pv 4) pa_nil))))))))) (pss_one (ps_ret pe_bl)) pss_nil) (pss_one (ps_for PassesOwn.never rfl (pi_kk (pv 3)) (pg_name (i := 5) sc__law_agrees.nd rfl (.inl rfl)) (pss_one (ps_if (pt_not (pt_val (pe_call (ok__law_so (T := T) E 3) (hr.mono (by decide)) (by rfl) E.g__law_so E.F__law_so.kp (bd__law_so E) .nil pass0 (pa_cons (pe_callS (ok_parent_of (T := T) E) (hr.mono (by decide)) (by rfl) E.g_parent_of E.F_parent_of.kp (bd_parent_of E) (fun σ => passAt (takes0 (X := _)) σ) (pa_cons (pv 0) (pa_cons (pv 5) pa_nil))) (pa_cons (pe_ix (ix_any (hu9 hr)) (pv 3) (pv 5) (fun _ _ => by rfl)) pa_nil))))) (pss_one (ps_ret pe_bl)) pss_nil)))))))) (pss_one (ps_ret pe_bl))), ?_⟩)
  · obtain ⟨v, u, S, L, rfl, _⟩ := h
    rfl
  obtain ⟨v, u, S, L, rfl, to, yd, kk⟩ := h
  have g := to.g
  have hL : L.length ≤ 60 := by rw [← to.p.length_eq]; exact to.len
  have u1 : ∀ (H1 : Hp) (σ' : L2.St), Rp T H H1 → σ'[1]? = some (some u) → Ev T (yL (ydd K)) (tVar 1) σ' H1 L := fun H1 σ' r e => ev_var e (Mono.mono r yd)
  refine f_for (T := T) (Y := yk K) (bs := placesF L) (evi_list (ev_c1 (T := T) (Y := yL (yk K)) (f := placesF) (pre := fun L => L.length ≤ 60) (Y1 := yL (ydd K)) (a := L) (u1 H _ (Rp.refl _) rfl) hL)) (fun i σ' => ∃ a b c d, σ' = [some v, some u, a, b, c, d]) ⟨none, none, none, none, rfl⟩ fun H2 r2 => ⟨?_, ?_⟩
  · rintro i b σ' H' bv hi r3 ⟨x1, x2, x3, x4, eσ⟩ yb
    subst eσ
    have ib := places_block (List.mem_of_getElem? hi)
    have r0 := r2.trans r3
    have B := g.tb b
    have tl := small_tree g hL b
    show tSeq (tAsg _ _) _ _ ([some v, some u, some bv, x2, x3, x4] : L2.St) H'
    refine q_set (T := T) (Y := yU K P w) (a := tree L b) (ev_c2 (T := T) (Y := yU K P w) (f := fun p => tree p.1 p.2) (pre := fun p => Good p.1 ∧ p.1.length ≤ 60) (Y1 := yL (ydd K)) (Y2 := yk K) (a := L) (b := b) (u1 H' _ r0 rfl) (ev_var (i := 2) rfl yb) ⟨g, hL⟩) fun upv H4 r4 yu => ?_
    show tSeq (tAsg _ _) _ _ ([some v, some u, some bv, some upv, x3, x4] : L2.St) H4
    refine q_set (T := T) (Y := yT K (yk K)) (a := line L b) (ev_tuple (ev_c1 (T := T) (Y := yL (yk K)) (f := rowOf) (pre := fun t => TB t ∧ t.length ≤ 200 ∧ ∀ s ∈ keys t, s ≠ []) (Y1 := yU K P w) (a := tree L b) (ev_var (i := 3) rfl yu) ⟨B, by show (tree L b).length ≤ 200; omega, fun s hs z => by
      have := key_len hs
      rw [z] at this
      cases this⟩)) fun lv H5 r5 yl => ?_
    show tSeq (tIfS _ _ _) _ _ ([some v, some u, some bv, some upv, some lv, x4] : L2.St) H5
    have r05 := r0.trans (r4.trans r5)
    have ll : (line L b).length = (tree L b).length := row_len B
    have sr : SoD 2 (.tup ((line L b).map tI)) := so_row (by omega) fun k hk => by rw [key_len (mem_line hk)]; decide
    have l4 : ∀ (H6 : Hp) (σ' : L2.St), Rp T H5 H6 → σ'[4]? = some (some lv) → Ev T (yT K (yk K)) (tVar 4) σ' H6 (line L b) := fun H6 σ' r e => ev_var e (Mono.mono (T := T) r yl)
    have yu5 := Mono.mono (T := T) r5 yu
    have yb5 := Mono.mono (T := T) (Y := yk K) (r4.trans r5) yb
    refine q_ifs (T := T) (c := false) (evT_eq (et_or (et_test (ev_neI (ev_leT (K := K) (P := P) (w := w) (l4 H5 ([some v, some u, some bv, some upv, some lv, x4]) (Rp.refl _) rfl)) (ev_leK (K := K) (P := P) (w := w) (ev_UM (ev_var (i := 3) (Y := yU K P w) rfl yu5))))) fun _ => et_or (et_not (et_B (ev_soD (n := 2) (ev_rowD (ev_rowof (E := E) (P := P) (i := 0) rfl (to.rp r05) ib (ev_var (i := 2) rfl yb5))) (ev_rowD (l4 H5 ([some v, some u, some bv, some upv, some lv, x4]) (Rp.refl _) rfl)) sr))) fun _ => et_not (et_B (ev_soD (n := 2) (ev_rowD (ev_rowof (E := E) (P := P) (i := 0) rfl (to.rp r05) ib (ev_var (i := 2) rfl yb5))) (ev_rowD (l4 H5 ([some v, some u, some bv, some upv, some lv, x4]) (Rp.refl _) rfl)) sr))) (by
      rw [ll, show (utab (tree L b)).length = (tree L b).length from List.length_map _, decide_eq_true rfl]
      rfl)) (fun z => by cases z) fun _ H6 r6 => ?_
    have r06 := r05.trans r6
    obtain ⟨ua, ukvs, eu, du, lu0⟩ := Mono.mono (T := T) r6 yu5
    subst eu
    obtain ⟨o, en0⟩ := du.ents
    have ek : ukvs.map (·.1) = (keys (tree L b)).map tI := (paired_keys lu0).trans (utab_keys _)
    rw [ek] at en0
    have yu6 : yU K P w H6 (.ref ua) (tree L b) := ⟨ua, ukvs, rfl, du, lu0⟩
    refine s_forKA (T := T) (K := K) (P := P) (w := w) (a := ua) (ks := (keys (tree L b)).map tI) (o := o) (ev_var (i := 3) rfl rfl) en0 fun H7 r7 => ?_
    refine ⟨fun _ σ' H' => Rp T H6 H' ∧ ∃ x4, σ' = [some v, some u, some bv, some (.ref ua), some lv, x4], ⟨r7, _, rfl⟩, fun i σ' H' p => en0.rp p.1, ?_, ?_⟩
    · rintro j q σ' H8 sv hj ⟨r8, x4', eσ⟩ ds
      subst eσ
      rw [List.getElem?_map] at hj
      obtain ⟨s, hs, eq⟩ := Option.map_eq_some_iff.mp hj
      subst eq
      obtain ⟨pl, hpl⟩ := lu_some (List.mem_of_getElem? hs)
      have s5 : Ev T (yk K) (tVar 5) [some v, some u, some bv, some (.ref ua), some lv, some sv] H8 s := ev_var (i := 5) rfl ds
      refine q_if (T := T) (c := false) (evT_eq (et_not (et_B (ev_soD (n := 2) (d := kD pl) (ev_plD (ev_parentof (E := E) (P := P) (i := 0) rfl (to.rp (r06.trans r8)) hpl s5)) (ev_plD (ev_suK (K := K) (P := P) (w := w) (Z := ypo K) (g := pl) (ev_UM (ev_var (i := 3) rfl (Mono.mono (T := T) r8 yu6))) (ev_kD s5) (keyI _) (by rw [lu_utab]; exact hpl))) (so_pl pl fun p hp => by
        have := key_len (B.par s p pl.2 (by
          have z := lu_mem hpl
          rw [show pl = (pl.1, pl.2) from rfl, hp] at z
          exact z))
        omega)))) rfl) (fun z => by cases z) fun _ H9 r9 => ⟨r8.trans r9, _, rfl⟩
    · rintro σ' H8 ⟨r8, x4', eσ⟩
      exact ⟨r3.trans (r4.trans (r5.trans (r6.trans r8))), _, _, _, _, eσ⟩
  · rintro σ' H' r3 ⟨x1, x2, x3, x4, eσ⟩
    exact kk H' (r2.trans r3)
end
end K20
namespace K20
open PySem PySem.Spec PyProof.Rows L2
theorem known_ok {L : List Deed} (g : Good L) (c : List Int) : ∀ x ∈ known L c, Hand x.h := fun x hx => (g.ok x (known_sub hx)).hand
theorem bump_eq (c : List Int) (h : Nat) : bump c h = ((List.range 4).map fun (i : Nat) => (i : Int)).map fun i => c.getD i.toNat 0 + (if i = (h : Int) then 1 else 0) := by
  unfold bump
  rw [List.map_map]
  refine List.map_congr_left fun j _ => ?_
  show c.getD j 0 + (if j = h then 1 else 0) = c.getD ((j : Int)).toNat 0 + (if (j : Int) = (h : Int) then 1 else 0)
  rw [Int.toNat_natCast]
  by_cases e : j = h
  · rw [if_pos e, if_pos (by rw [e])]
  · rw [if_neg e, if_neg (by omega)]
theorem paired_set {α β : Type} {F : α → β → Prop} : ∀ {xs : List α} {ys : List β} (j : Nat) {x : α} {y : β}, Paired F xs ys → F x y → Paired F (xs.set j x) (ys.set j y)
  | _, _, _, _, _, .nil, _ => .nil
  | _, _, 0, _, _, .cons _ t, f => .cons f t
  | _, _, j + 1, _, _, .cons a t, f => .cons a (paired_set j t f)
theorem ixN_ok {n j : Nat} (h : j < n) : ixN n (j : Int) = some j := by
  unfold ixN
  rw [if_pos (by omega), if_pos (by omega), Int.toNat_natCast]
section
variable {P : Program} {w : World} {K : Fg} {mg : Str → Option Value} {base : Heap} {T : List (Addr × Str)} {H H' H0 H1 : Hp} {σ : L2.St} {te ta tb tl to ti : TE} {tt : TT} {t u : TS} {En : Ends}
/-- a branch that comes back -/
theorem q_ifsJ {c : Bool} (I : L2.St → Hp → Prop) (h : EvT T tt σ H c) (h1 : c = true → ∀ H1, Rp T H H1 → (∀ σ' H', I σ' H' → u En σ' H') → tSeq t u En σ H1) (h2 : c = false → ∀ H1, Rp T H H1 → I σ H1) (k : ∀ σ' H', I σ' H' → u En σ' H') : tSeq (tIfS tt t tNext) u En σ H :=
  q_ifs h (fun e H1 r => h1 e H1 r k) fun e H1 r => k σ H1 (h2 e H1 r)
/-- the law's clocks and deeds -/
structure WS (T : List (Addr × Str)) (K : Fg) (Hb H : Hp) (lc ld : Addr) (cs : List (List Int)) (L : List Deed) : Prop where
  rp : Rp T Hb H
  cl : ∃ vs, H lc = some (.lst vs) ∧ Paired (yk K H) vs cs
  dl : ∃ vs, H ld = some (.lst vs) ∧ Paired (ydd K H) vs L
  nc : Nw Hb lc
  nd : Nw Hb ld
  ne : lc ≠ ld
theorem WS.more {Hb : Hp} {lc ld : Addr} {cs : List (List Int)} {L : List Deed} (x : WS T K Hb H lc ld cs L) (r : Rp T H H') : WS T K Hb H' lc ld cs L := by
  obtain ⟨vs, h1, h2⟩ := x.cl
  obtain ⟨ws, h3, h4⟩ := x.dl
  exact ⟨x.rp.trans r, ⟨vs, r.lst h1, paired_mono r h2⟩, ⟨ws, r.lst h3, paired_mono r h4⟩, x.nc, x.nd, x.ne⟩
theorem WS.yC {Hb : Hp} {lc ld : Addr} {cs : List (List Int)} {L : List Deed} (x : WS T K Hb H lc ld cs L) : yL (yk K) H (.ref lc) cs := by
  obtain ⟨vs, h1, h2⟩ := x.cl
  exact ⟨lc, vs, rfl, h1, h2⟩
theorem WS.yD {Hb : Hp} {lc ld : Addr} {cs : List (List Int)} {L : List Deed} (x : WS T K Hb H lc ld cs L) : yL (ydd K) H (.ref ld) L := by
  obtain ⟨vs, h1, h2⟩ := x.dl
  exact ⟨ld, vs, rfl, h1, h2⟩
/-- clocks[h] = .. -/
theorem s_clock {Hb : Hp} {lc ld : Addr} {cs : List (List Int)} {L : List Deed} {j : Nat} {c : List Int} (h : Ev T (yk K) te σ H c) (ho : Ev T yV to σ H (.ref lc)) (hi : Ev T yI ti σ H (j : Int)) (x : WS T K Hb H lc ld cs L) (hj : j < cs.length)
    (k : ∀ H', WS T K Hb H' lc ld (cs.set j c) L → En.nx σ H') : tAsg te (gSub to ti rSetL) En σ H :=
  h H (Rp.refl _) _ fun v H1 r1 y => ho H1 r1 _ fun ov H2 r2 eo => hi H2 (r1.trans r2) _ fun iv H3 r3 ei => by
    have x3 := x.more (r1.trans (r2.trans r3))
    obtain ⟨vs, h1, h2⟩ := x3.cl
    obtain ⟨ws, h3, h4⟩ := x3.dl
    have lv : vs.length = cs.length := h2.length
    refine ⟨lc, vs, (j : Int), j, eo, ei, h1, ixN_ok (by omega), k _ ?_⟩
    have tk : Tk H3 (upd H3 lc (.lst (vs.set j v))) := Tk.updL h1
    exact ⟨x3.rp.chgLN x.nc h1, ⟨_, upd_same, paired_set j (paired_imm tk h2) (Imm.imm (Y := yk K) ((r2.trans r3).tk.trans tk) y)⟩, ⟨ws, by rw [upd_ne (Ne.symm x.ne)]; exact h3, paired_imm tk h4⟩, x.nc, x.nd, x.ne⟩
/-- deeds.append(..) -/
theorem s_deed {Hb : Hp} {lc ld : Addr} {cs : List (List Int)} {L : List Deed} {y : Deed} (h : Ev T (ydd K) te σ H y) (ho : Ev T yV to σ H (.ref ld)) (x : WS T K Hb H lc ld cs L) (hl : L.length ≤ 100)
    (k : ∀ H', Tk H H' → WS T K Hb H' lc ld cs (L ++ [y]) → En.nx σ H') : tDrop (tBM K "list" rAppend to (tCons te tNil)) En σ H := by
  obtain ⟨ws, h3, h4⟩ := x.dl
  refine s_append (T := T) (Y := ydd K) (b := y) (l := ld) (xs := ws) ho h h3 (by rw [h4.length]; exact Nat.lt_of_le_of_lt hl (by decide)) fun v H1 r1 y1 => ?_
  have x1 := x.more r1
  obtain ⟨vs, h1, h2⟩ := x1.cl
  have h3' := r1.lst h3
  have tk : Tk H1 (upd H1 ld (.lst (ws ++ [v]))) := Tk.updL h3'
  exact k _ (r1.tk.trans tk) ⟨x1.rp.chgLN x.nd h3', ⟨vs, by rw [upd_ne x.ne]; exact h1, paired_imm tk h2⟩, ⟨_, upd_same, paired_imm tk (paired_snocG (paired_mono r1 h4) y1)⟩, x.nc, x.nd, x.ne⟩
theorem ev_draw {r : List Int} {a lim : Int} (h1 : Ev T (yL yI) ta σ H r) (h2 : Ev T yI tb σ H a) (h3 : Ev T yI tl σ H lim) (hr : r ≠ []) (ha : 0 ≤ a) (hl : 0 < lim) : Ev T yI (tCall (sp_law_draw K T) [] E0 (tCons ta (tCons tb (tCons tl tNil)))) σ H (drawF r a lim) :=
  ev_c3 (T := T) (Y := yI) (f := fun p => drawF p.1 p.2.1 p.2.2) (pre := fun p => p.1 ≠ [] ∧ 0 ≤ p.2.1 ∧ 0 < p.2.2) (Y1 := yL yI) (Y2 := yI) (Y3 := yI) (a := r) (b := a) (c := lim) h1 h2 h3 ⟨hr, ha, hl⟩
theorem ev_slX {z : Str} {tlo thi : TO} {lo hi : Option Int} (h : Ev T yS te σ H z) (h1 : EvO T tlo σ H lo) (h2 : EvO T thi σ H hi) (hz : z.length ≤ sizeLine) : Ev T yS (tSl rSlS te tlo thi) σ H (cutS z lo hi) := fun H1 r1 Q q =>
  h H1 r1 _ fun v H2 r2 e => h1 H2 (r1.trans r2) _ fun H3 r3 => h2 H3 (r1.trans (r2.trans r3)) _ fun H4 r4 => ⟨z, e, hz, q _ H4 (r2.trans (r3.trans r4)) rfl⟩
theorem sc__law_written : FnScope ["_law_row_here", "_law_at", "_law_many", "_law_hands", "_law_clocks", "_law_deeds", "_law_k", "_law_spot", "_law_h", "_law_other", "_law_seen", "_law_told", "_law_blocks", "_law_block", "_law_line", "_law_gap", "_law_act", "_law_one", "_law_j"] ["_law_row_here", "_law_at", "_law_many", "_law_hands"] (defScope s__law_written) := ⟨rfl, rfl, rfl, by decide +kernel, rfl, by decide +kernel, by decide +kernel⟩
theorem bd__law_written (E : Tp K mg w T base) : Binds K E.d__law_written ["_law_row_here", "_law_at", "_law_many", "_law_hands"] [] := E.F__law_written.bindsN fun _ _ _ _ _ _ us hl => match us, hl with | [_, _, _, _], _ => rfl
def sp_written (K : Fg) (T : List (Addr × Str)) : Sp := fun vs H Q _ => ∃ (rv : V) (r : List Int) (a : Int) (m hd : Nat), vs = [rv, .int a, .int m, .int hd] ∧ yL yI H rv r ∧ r ≠ [] ∧ 0 ≤ a ∧ m ≤ 40 ∧ 1 ≤ hd ∧ hd ≤ 4 ∧ ∀ H' u L, Rp T H H' → yL (ydd K) H' u L → Good L → L.length = m → Q u H'
theorem ok__law_written (E : Tp K mg w T base) : FnOk P w K mg base CX0 3 E.f__law_written E.d__law_written ["_law_row_here", "_law_at", "_law_many", "_law_hands"] (sp_written K T) := by
  refine E.F__law_written.ok sc__law_written (fun vs H Q Ex h => ?_) (fun cdv Ar outer s H vs Q Ex hr h => ⟨_, PSs.nox (pss_cons (ps_set (i := 4) sc__law_written.nd rfl (.inl rfl) (pe_lst (pa_cons (pe_tup (pa_cons pe_int (pa_cons pe_int (pa_cons pe_int (pa_cons pe_int pa_nil))))) (pa_cons (pe_tup (pa_cons pe_int (pa_cons pe_int (pa_cons pe_int (pa_cons pe_int pa_nil))))) (pa_cons (pe_tup (pa_cons pe_int (pa_cons pe_int (pa_cons pe_int (pa_cons pe_int pa_nil))))) (pa_cons (pe_tup (pa_cons pe_int (pa_cons pe_int (pa_cons pe_int (pa_cons pe_int pa_nil))))) pa_nil)))))) (pss_cons (ps_set (i := 5) sc__law_written.nd rfl (.inl rfl) (pe_lst pa_nil)) (pss_cons (ps_for PassesOwn.never rfl (pi_range1 (by rfl) E.range (pa_cons (pv 2) pa_nil)) (pg_name (i := 6) sc__law_written.nd rfl (.inl rfl)) (pss_cons (ps_set (i := 7) sc__law_written.nd rfl (.inl rfl) (pe_op op_plus (pv 1) (pe_op op_mulX pe_int (pv 6)))) (pss_cons (ps_set (i := 8) sc__law_written.nd rfl (.inr rfl) (pe_call (ok__law_draw (T := T) E) (hr.mono (by decide)) (by rfl) E.g__law_draw E.F__law_draw.kp (bd__law_draw E) .nil pass0 (pa_cons (pv 0) (pa_cons (pv 7) (pa_cons (pv 3) pa_nil))))) (pss_cons (ps_set (i := 9) sc__law_written.nd rfl (.inl rfl) (pe_call (ok__law_draw (T := T) E) (hr.mono (by decide)) (by rfl) E.g__law_draw E.F__law_draw.kp (bd__law_draw E) .nil pass0 (pa_cons (pv 0) (pa_cons (pe_op op_plus (pv 7) pe_int) (pa_cons pe_int pa_nil))))) (pss_cons (ps_if (pt_cmpR op_lt (pv 9) pe_int (nomark _)) (pss_one (ps_asg (pe_call (ok__law_both (T := T) E) (hr.mono (by decide)) (by rfl) E.g__law_both E.F__law_both.kp (bd__law_both E) .nil pass0 (pa_cons (pe_ix (ix_any (hu9 hr)) (pv 4) (pv 8) (fun _ _ => by rfl)) (pa_cons (pe_ix (ix_any (hu9 hr)) (pv 4) (pv 9) (fun _ _ => by rfl)) pa_nil))) (pg_sub (pv 4) (pv 8) set_list))) pss_nil) (pss_cons (ps_set (i := 10) sc__law_written.nd rfl (.inr rfl) (pe_ix (ix_any (hu9 hr)) (pv 4) (pv 8) (fun _ _ => by rfl))) (pss_cons (ps_set (i := 11) sc__law_written.nd rfl (.inl rfl) (pe_call (ok__law_known (T := T) E) (hr.mono (by decide)) (by rfl) E.g__law_known E.F__law_known.kp (bd__law_known E) .nil pass0 (pa_cons (pv 5) (pa_cons (pv 10) pa_nil)))) (pss_cons (ps_set (i := 12) sc__law_written.nd rfl (.inl rfl) (pe_op op_plus (pe_lst (pa_cons (pe_tup (pa_cons pe_int (pa_cons pe_int pa_nil))) (pa_cons (pe_tup (pa_cons pe_int (pa_cons pe_int pa_nil))) pa_nil))) (pe_lc (own := [("_law_one", 17)]) (g := gName 17) rfl sc__law_written.nd (pi_list (pv 11)) (blkOk_by (own := [("_law_one", 17)]) (N := ["_law_row_here", "_law_at", "_law_many", "_law_hands", "_law_clocks", "_law_deeds", "_law_k", "_law_spot", "_law_h", "_law_other", "_law_seen", "_law_told", "_law_blocks", "_law_block", "_law_line", "_law_gap", "_law_act", "_law_one", "_law_j"]) (sc := defScope s__law_written) (by decide +kernel)) (fun _ _ _ _ _ => (pg_name (i := 17) sc__law_written.nd rfl (.inl rfl))) (fun _ _ _ _ _ => pts_one (pt_cmpR (op_eqKK K (hu64 hr) (by rfl)) (pe_ix (ix_anyK K P w (hu9 hr) (by rfl) (by rfl) (by rfl)) (pe_ix (ix_anyK K P w (hu9 hr) (by rfl) (by rfl) (by rfl)) (pv 17) pe_int (fun _ _ => by rfl)) pe_int (fun _ _ => by rfl)) pe_str (nomark _))) (fun _ _ _ _ _ => (pe_call (ok__law_id (T := T) E) (hr.mono (by decide)) (by rfl) E.g__law_id E.F__law_id.kp (bd__law_id E) .nil pass0 (pa_cons (pv 17) pa_nil)))))) (pss_cons (ps_set (i := 13) sc__law_written.nd rfl (.inl rfl) (pe_ix (ix_any (hu9 hr)) (pv 12) (pe_call (ok__law_draw (T := T) E) (hr.mono (by decide)) (by rfl) E.g__law_draw E.F__law_draw.kp (bd__law_draw E) .nil pass0 (pa_cons (pv 0) (pa_cons (pe_op op_plus (pv 7) pe_int) (pa_cons (pe_callB call_lenU (by rfl) E.len (by decide +kernel) (pa_cons (pv 12) pa_nil)) pa_nil)))) (fun _ _ => by rfl))) (pss_cons (ps_set (i := 14) sc__law_written.nd rfl (.inl rfl) (pe_op op_plus (pe_op op_plus (pe_lst (pa_cons pe_non pa_nil)) (pe_call (ok__law_row (T := T) E) (hr.mono (by decide)) (by rfl) E.g__law_row E.F__law_row.kp (bd__law_row E) .nil pass0 (pa_cons (pe_call (ok__law_tree (T := T) E) (hr.mono (by decide)) (by rfl) E.g__law_tree E.F__law_tree.kp (bd__law_tree E) .nil pass0 (pa_cons (pv 11) (pa_cons (pv 13) pa_nil))) pa_nil))) (pe_lst (pa_cons pe_non pa_nil)))) (pss_cons (ps_set (i := 15) sc__law_written.nd rfl (.inl rfl) (pe_call (ok__law_draw (T := T) E) (hr.mono (by decide)) (by rfl) E.g__law_draw E.F__law_draw.kp (bd__law_draw E) .nil pass0 (pa_cons (pv 0) (pa_cons (pe_op op_plus (pv 7) pe_int) (pa_cons (pe_op op_sub (pe_callB call_lenU (by rfl) E.len (by decide +kernel) (pa_cons (pv 14) pa_nil)) pe_int) pa_nil))))) (pss_cons (ps_set (i := 16) sc__law_written.nd rfl (.inl rfl) (pe_tup (pa_cons pe_str (pa_cons (pv 13) (pa_cons (pe_ix (ix_any (hu9 hr)) (pv 14) (pv 15) (fun _ _ => by rfl)) (pa_cons (pe_ix (ix_any (hu9 hr)) (pv 14) (pe_op op_plus (pv 15) pe_int) (fun _ _ => by rfl)) (pa_cons (pe_slice sl_str pe_str po_none (po_some (pe_op op_plus pe_int (pe_call (ok__law_draw (T := T) E) (hr.mono (by decide)) (by rfl) E.g__law_draw E.F__law_draw.kp (bd__law_draw E) .nil pass0 (pa_cons (pv 0) (pa_cons (pe_op op_plus (pv 7) pe_int) (pa_cons pe_int pa_nil))))))) pa_nil))))))) (pss_cons (ps_if (pt_cmpR (op_eqK (hu64 hr)) (pe_call (ok__law_draw (T := T) E) (hr.mono (by decide)) (by rfl) E.g__law_draw E.F__law_draw.kp (bd__law_draw E) .nil pass0 (pa_cons (pv 0) (pa_cons (pe_op op_plus (pv 7) pe_int) (pa_cons pe_int pa_nil)))) pe_int (nomark _)) (pss_one (ps_set (i := 16) sc__law_written.nd rfl (.inl rfl) (pe_tup (pa_cons pe_str (pa_cons (pv 13) (pa_cons pe_non pa_nil)))))) pss_nil) (pss_cons (ps_expr (pe_bm PySem.F.plainAttrs_list PySem.F.slot_list_append PySem.F.type_list_append mt_append (pv 5) (pa_cons (pe_tup (pa_cons (pe_op op_plus (pv 8) pe_int) (pa_cons (pe_op op_plus (pe_ix (ix_any (hu9 hr)) (pv 10) (pv 8) (fun _ _ => by rfl)) pe_int) (pa_cons (pv 10) (pa_cons (pv 16) pa_nil))))) pa_nil))) (pss_one (ps_asg (pe_callTy call_tuple_of (by rfl) E.tuple (by decide +kernel) (pa_cons (pe_lc (own := [("_law_j", 18)]) (g := gName 18) (tt := tYes) rfl sc__law_written.nd (pi_range1 (by rfl) E.range (pa_cons pe_int pa_nil)) (blkOk_by (own := [("_law_j", 18)]) (N := ["_law_row_here", "_law_at", "_law_many", "_law_hands", "_law_clocks", "_law_deeds", "_law_k", "_law_spot", "_law_h", "_law_other", "_law_seen", "_law_told", "_law_blocks", "_law_block", "_law_line", "_law_gap", "_law_act", "_law_one", "_law_j"]) (sc := defScope s__law_written) (by decide +kernel)) (fun _ _ _ _ _ => (pg_name (i := 18) sc__law_written.nd rfl (.inl rfl))) (fun _ _ _ _ _ => pts_nil) (fun _ _ _ _ _ => (pe_op (op_plusK K (by rfl)) (pe_ix (ix_anyK K P w (hu9 hr) (by rfl) (by rfl) (by rfl)) (pv 10) (pv 18) (fun _ _ => by rfl)) (pe_ifExp (pt_cmpR (op_eqKK K (hu64 hr) (by rfl)) (pv 18) (pv 8) (nomark _)) pe_int pe_int)))) pa_nil)) (pg_sub (pv 4) (pv 8) set_list))))))))))))))))) (pss_one (ps_ret (pv 5)))))), ?_⟩)
  · obtain ⟨rv, r, a, m, hd, rfl, _⟩ := h
    rfl
  obtain ⟨rv, r, a, m, hd, rfl, yr, hr0, ha, hm, hd1, hd4, kk⟩ := h
  have c0 : ∀ (σ' : L2.St) (H' : Hp), Ev T (yk K) (tTup (tCons (tC (.int 0)) (tCons (tC (.int 0)) (tCons (tC (.int 0)) (tCons (tC (.int 0)) tNil))))) σ' H' [0, 0, 0, 0] := fun σ' H' => ev_tupk (k := [0, 0, 0, 0]) (eds_cons ev_int (eds_cons ev_int (eds_cons ev_int (eds_cons ev_int eds_nil)))) (by show 4 ≤ sizeLine; decide)
  refine q_set (T := T) (Y := yLN H (yk K)) (a := [[0, 0, 0, 0], [0, 0, 0, 0], [0, 0, 0, 0], [0, 0, 0, 0]]) (ev_lstN (eds_cons (c0 _ _) (eds_cons (c0 _ _) (eds_cons (c0 _ _) (eds_cons (c0 _ _) eds_nil)))) (by show 4 ≤ sizeLine; decide)) fun cv H1 r1 ⟨lc, cvs, ec, hc, nc, pc⟩ => ?_
  subst ec
  refine q_set (T := T) (Y := yLN H1 (ydd K)) (a := ([] : List Deed)) (ev_lstN eds_nil (by show 0 ≤ sizeLine; decide)) fun dv H2 r2 ⟨ld, dvs, ed, hld, nd, pd⟩ => ?_
  subst ed
  cases pd
  have ws0 : WS T K H H2 lc ld [[0, 0, 0, 0], [0, 0, 0, 0], [0, 0, 0, 0], [0, 0, 0, 0]] [] := ⟨r1.trans r2, ⟨cvs, r2.lst hc, paired_mono r2 pc⟩, ⟨[], hld, .nil⟩, nc, r1.nw nd, nd.ne hc (fun _ z => by cases z)⟩
  show tSeq (tFor _ _ _) _ _ ([some rv, some (.int a), some (.int m), some (.int hd), some (.ref lc), some (.ref ld), none, none, none, none, none, none, none, none, none, none, none, none, none] : L2.St) H2
  refine s_forR (T := T) (n := (m : Int)) (ea_int (ev_var (i := 2) rfl rfl)) (by omega) (by have : (41 : Int) < 2 ^ 62 := (by decide); omega) fun H3 r3 => ?_
  refine ⟨fun i σ' H' => (∃ x1 x2 x3 x4 x5 x6 x7 x8 x9 x10 x11, σ' = [some rv, some (.int a), some (.int m), some (.int hd), some (.ref lc), some (.ref ld), x1, x2, x3, x4, x5, x6, x7, x8, x9, x10, x11, none, none]) ∧ ∃ cs L, WS T K H H' lc ld cs L ∧ WInv cs L ∧ L.length = i, ⟨⟨none, none, none, none, none, none, none, none, none, none, none, rfl⟩, _, [], ws0.more r3, winv0, rfl⟩, ?_, ?_⟩
  · rintro i σ' H' hi ⟨⟨x1, x2, x3, x4, x5, x6, x7, x8, x9, x10, x11, eσ⟩, cs, L, ws, W, hL⟩
    subst eσ
    rw [Int.toNat_natCast] at hi
    have rv0 : ∀ (H4 : Hp) (σ4 : L2.St), Rp T H H4 → σ4[0]? = some (some rv) → Ev T (yL yI) (tVar 0) σ4 H4 r := fun H4 σ4 q e => ev_var e (Mono.mono q yr)
    show tSeq (tAsg _ _) _ _ ([some rv, some (.int a), some (.int m), some (.int hd), some (.ref lc), some (.ref ld), some (.int (i : Int)), x2, x3, x4, x5, x6, x7, x8, x9, x10, x11, none, none] : L2.St) H'
    refine q_set (T := T) (Y := yI) (a := a + 6 * (i : Int)) (ev_pl (ev_var (i := 1) rfl rfl) (ev_mul ev_int (ev_var (i := 6) rfl rfl) (IntMulOk.of_left (by decide +kernel)))) fun spv H4 r4 es => ?_
    obtain rfl : spv = V.int _ := es
    have hsp : 0 ≤ a + 6 * (i : Int) := by omega
    generalize a + 6 * (i : Int) = sp at hsp
    have ws4 := ws.more r4
    obtain ⟨hh0, hh1⟩ := drawF_lt r sp (lim := (hd : Int)) (by omega)
    refine q_set (T := T) (Y := yI) (a := drawF r sp (hd : Int)) (ev_draw (rv0 H4 _ ws4.rp rfl) (ev_var (i := 7) rfl rfl) (ev_var (i := 3) rfl rfl) hr0 hsp (by omega)) fun hv H5 r5 eh => ?_
    obtain rfl : hv = V.int _ := eh
    obtain ⟨h, eh⟩ : ∃ h : Nat, drawF r sp (hd : Int) = (h : Int) := ⟨(drawF r sp (hd : Int)).toNat, by omega⟩
    rw [eh] at hh1
    rw [eh]
    have h4 : h < 4 := by omega
    have ws5 := ws4.more r5
    obtain ⟨ho0, ho1⟩ := drawF_lt r (sp + 1) (lim := 6) (by decide)
    refine q_set (T := T) (Y := yI) (a := drawF r (sp + 1) 6) (ev_draw (rv0 H5 _ ws5.rp rfl) (ev_pl (ev_var (i := 7) rfl rfl) ev_int) ev_int hr0 (by omega) (by decide)) fun ov H6 r6 eo => ?_
    obtain rfl : ov = V.int _ := eo
    obtain ⟨o, eo⟩ : ∃ o : Nat, drawF r (sp + 1) 6 = (o : Int) := ⟨(drawF r (sp + 1) 6).toNat, by omega⟩
    rw [eo]
    have ws6 := ws5.more r6
    clear ws ws4 ws5 r4 r5 r6 ho0 ho1 hh0
    have lcs : ∀ {cs' : List (List Int)} {L' : List Deed}, WInv cs' L' → ∀ j, j < 4 → ∃ c, cs'[j]? = some c := fun x j hj => ⟨_, List.getElem?_eq_getElem (by rw [x.len]; exact hj)⟩
    show tSeq (tIfS _ _ _) _ _ ([some rv, some (.int a), some (.int m), some (.int hd), some (.ref lc), some (.ref ld), some (.int (i : Int)), some (.int sp), some (.int (h : Int)), some (.int (o : Int)), x5, x6, x7, x8, x9, x10, x11, none, none] : L2.St) H6
    refine q_ifsJ (T := T) (c := decide ((o : Int) < 4)) (fun σ' H' => σ' = [some rv, some (.int a), some (.int m), some (.int hd), some (.ref lc), some (.ref ld), some (.int (i : Int)), some (.int sp), some (.int (h : Int)), some (.int (o : Int)), x5, x6, x7, x8, x9, x10, x11, none, none] ∧ ∃ cs, WS T K H H' lc ld cs L ∧ WInv cs L) (et_test (ev_cmp (ev_var (i := 9) rfl rfl) ev_int)) (fun c H7 r7 back => ?_) (fun _ H7 r7 => ⟨rfl, cs, ws6.more r7, W⟩) ?_
    · have c := of_decide_eq_true c
      have ws7 := ws6.more r7
      obtain ⟨c1, e1⟩ := lcs W h h4
      obtain ⟨c2, e2⟩ := lcs W o (by omega)
      refine s_clock (T := T) (K := K) (c := bothC c1 c2) (j := h) (ev_c2 (T := T) (Y := yk K) (f := fun p => bothC p.1 p.2) (pre := fun p => p.1.length = 4 ∧ p.2.length = 4) (Y1 := yk K) (Y2 := yk K) (a := c1) (b := c2) (E := E0) (ev_suL (Y := yk K) (P := P) (w := w) (ev_var (i := 4) rfl ws7.yC) (ev_var (i := 8) rfl rfl) (atI_nat e1)) (ev_suL (Y := yk K) (P := P) (w := w) (ev_var (i := 4) rfl ws7.yC) (ev_var (i := 9) rfl rfl) (atI_nat e2)) ⟨(W.cut c1 (List.mem_of_getElem? e1)).len, (W.cut c2 (List.mem_of_getElem? e2)).len⟩) (ev_var (i := 4) rfl rfl) (ev_var (i := 8) rfl rfl) ws7 (by rw [W.len]; exact h4) fun H8 ws8 => back _ H8 ⟨rfl, _, ws8, W.learn e1 (List.mem_of_getElem? e2)⟩
    · rintro σ7 H7 ⟨eσ, cs', ws7, W'⟩
      subst eσ
      clear W ws6 cs
      obtain ⟨c, ec⟩ := lcs W' h h4
      have cut := W'.cut c (List.mem_of_getElem? ec)
      have gk := cut.good W'.good
      have hL60 : L.length ≤ 40 := by omega
      refine q_set (T := T) (Y := yk K) (a := c) (ev_suL (Y := yk K) (P := P) (w := w) (ev_var (i := 4) rfl ws7.yC) (ev_var (i := 8) rfl rfl) (atI_nat ec)) fun sev H8 r8 ys => ?_
      have ws8 := ws7.more r8
      refine q_set (T := T) (Y := yL (ydd K)) (a := known L c) (ev_c2 (T := T) (Y := yL (ydd K)) (f := fun p => known p.1 p.2) (pre := fun p => p.2.length = 4 ∧ (∀ x ∈ p.1, Hand x.h) ∧ p.1.length ≤ 60) (Y1 := yL (ydd K)) (Y2 := yk K) (a := L) (b := c) (E := E0) (ev_var (i := 5) rfl ws8.yD) (ev_var (i := 10) rfl ys) ⟨cut.len, fun x hx => (W'.good.ok x hx).hand, by show L.length ≤ 60; omega⟩) fun tv H9 r9 yt => ?_
      have ws9 := ws8.more r9
      have lk : (known L c).length ≤ 40 := Nat.le_trans (List.length_filter_le _ _) hL60
      generalize hKn : known L c = Lk at yt gk lk
      have lf : (Lk.filter (isW "block")).length ≤ 40 := Nat.le_trans (List.length_filter_le _ _) lk
      have rt : ∀ (σ' : L2.St) (H' : Hp), Ev T (yk K) (tTup (tCons (tC (.int 0)) (tCons (tC (.int 0)) tNil))) σ' H' root := fun σ' H' => ev_tupk (k := root) (eds_cons ev_int (eds_cons ev_int eds_nil)) (by show 2 ≤ sizeLine; decide)
      refine q_set (T := T) (Y := yL (yk K)) (a := [root, root] ++ (Lk.filter (isW "block")).map Deed.id) (ev_plL (K := K) (Y := yk K) (ev_lst (eds_cons (rt _ _) (eds_cons (rt _ _) eds_nil)) (by show 2 ≤ sizeLine; decide)) (ev_lc (T := T) (Y := ydd K) (Z := yk K) (bs := Lk) (isW "block") Deed.id (evi_list (ev_var (i := 11) rfl yt)) (fun x hx ov H1 r1 yx => et_test (ev_eqT (ev_word (K := K) (P := P) (w := w) (a := x.act) (ev_act (K := K) (P := P) (w := w) (x := x) (ev_var (i := 17) rfl yx) ev_int) ev_int) ev_str (word_ok _) (by decide +kernel))) (fun x hx _ ov H1 r1 yx => ev_c1 (a := x) (f := Deed.id) (Y := yk K) (ev_var (i := 17) rfl yx) trivial) (fun _ => rfl) (Nat.le_trans lk (by decide))) (by rw [List.length_map]; exact Nat.le_trans (Nat.add_le_add_left lf _) (by decide))) fun bsv H10 r10 ybs => ?_
      have ws10 := ws9.more r10
      have bok : ∀ b ∈ [root, root] ++ (Lk.filter (isW "block")).map Deed.id, IsBlock Lk b := fun b hb => by
        rcases List.mem_append.mp hb with hb | hb
        · rcases List.mem_cons.mp hb with hb | hb
          · exact .inl hb
          · exact .inl (List.mem_singleton.mp hb)
        · exact places_block (List.mem_cons_of_mem _ hb)
      have bl0 : 0 < ([root, root] ++ (Lk.filter (isW "block")).map Deed.id).length := by rw [List.length_append]; exact Nat.lt_of_lt_of_le (by decide : 0 < 2) (Nat.le_add_right _ _)
      generalize hbs : [root, root] ++ (Lk.filter (isW "block")).map Deed.id = bs at ybs bok bl0
      obtain ⟨d0, d1⟩ := drawF_lt r (sp + 2) (lim := (bs.length : Int)) (by omega)
      obtain ⟨b, hb⟩ : ∃ b, bs[(drawF r (sp + 2) bs.length).toNat]? = some b := ⟨_, List.getElem?_eq_getElem (by omega)⟩
      have hbm := List.mem_of_getElem? hb
      have ib := bok b hbm
      refine q_set (T := T) (Y := yk K) (a := b) (ev_suL (Y := yk K) (P := P) (w := w) (i := drawF r (sp + 2) bs.length) (ev_var (i := 12) rfl ybs) (ev_draw (rv0 H10 _ ws10.rp rfl) (ev_pl (ev_var (i := 7) rfl rfl) ev_int) (ev_leL (K := K) (P := P) (w := w) (ev_var (i := 12) rfl ybs)) hr0 (by omega) (by omega)) (by
        rw [show drawF r (sp + 2) bs.length = (((drawF r (sp + 2) bs.length).toNat : Nat) : Int) from by omega]
        exact atI_nat hb)) fun bv H11 r11 yb => ?_
      have ws11 := ws10.more r11
      have B := gk.tb b
      have tl := small_tree gk (Nat.le_trans lk (by decide)) b
      have ll : (line Lk b).length = (tree Lk b).length := row_len B
      have le : (ends (line Lk b)).length = (line Lk b).length + 2 := by
        unfold ends
        rw [List.length_append, List.length_append, List.length_map]
        show 1 + (line Lk b).length + 1 = _
        omega
      have big : ∀ {j : Nat}, j ≤ 7000 → j ≤ sizeLine := fun h => Nat.le_trans h (by decide)
      refine q_set (T := T) (Y := yL (yo K)) (a := ends (line Lk b)) (ev_plL (K := K) (T := T) (Y := yo K) (bs := [none] ++ (line Lk b).map some) (cs := [none]) (ev_plL (Y := yo K) (bs := [none]) (cs := (line Lk b).map some) (ev_lst (eds_cons ev_nonD eds_nil) (by show 1 ≤ sizeLine; decide)) (ev_some (ev_c1 (T := T) (Y := yL (yk K)) (f := rowOf) (pre := fun t => TB t ∧ t.length ≤ 200 ∧ ∀ s ∈ keys t, s ≠ []) (Y1 := yU K P w) (a := tree Lk b) (ev_c2 (T := T) (Y := yU K P w) (f := fun p => tree p.1 p.2) (pre := fun p => Good p.1 ∧ p.1.length ≤ 60) (Y1 := yL (ydd K)) (Y2 := yk K) (a := Lk) (b := b) (ev_var (i := 11) rfl (Mono.mono (T := T) (r10.trans r11) yt)) (ev_var (i := 13) rfl yb) ⟨gk, by show Lk.length ≤ 60; omega⟩) ⟨B, by show (tree Lk b).length ≤ 200; omega, fun s hs z => by
        have := key_len hs
        rw [z] at this
        cases this⟩)) (big (by show 1 + ((line Lk b).map some).length ≤ 7000; rw [List.length_map]; omega))) (ev_lst (eds_cons ev_nonD eds_nil) (by show 1 ≤ sizeLine; decide)) (big (by rw [List.length_append, List.length_map]; show 1 + (line Lk b).length + 1 ≤ 7000; omega))) fun lv H12 r12 yl => ?_
      have yl : yL (yo K) H12 lv (ends (line Lk b)) := yl
      have ws12 := ws11.more r12
      obtain ⟨g0, g1⟩ := drawF_lt r (sp + 3) (lim := ((ends (line Lk b)).length : Int) - 1) (by omega)
      refine q_set (T := T) (Y := yI) (a := drawF r (sp + 3) (((ends (line Lk b)).length : Int) - 1)) (ev_draw (rv0 H12 _ ws12.rp rfl) (ev_pl (ev_var (i := 7) rfl rfl) ev_int) (ev_sub (ev_leL (K := K) (P := P) (w := w) (ev_var (i := 14) rfl yl)) ev_int) hr0 (by omega) (by omega)) fun gv H13 r13 eg => ?_
      obtain rfl : gv = V.int _ := eg
      obtain ⟨gp, eg⟩ : ∃ gp : Nat, drawF r (sp + 3) (((ends (line Lk b)).length : Int) - 1) = (gp : Int) := ⟨(drawF r (sp + 3) (((ends (line Lk b)).length : Int) - 1)).toNat, by omega⟩
      rw [eg] at g1
      rw [eg]
      have ws13 := ws12.more r13
      have hl0 : (ends (line Lk b))[gp]? = some (ends (line Lk b))[gp] := List.getElem?_eq_getElem (by omega)
      have hr1 : (ends (line Lk b))[gp + 1]? = some (ends (line Lk b))[gp + 1] := List.getElem?_eq_getElem (by omega)
      generalize (ends (line Lk b))[gp] = lft at hl0
      generalize (ends (line Lk b))[gp + 1] = rgt at hr1
      obtain ⟨m0, m1⟩ := drawF_lt r (sp + 4) (lim := 3) (by decide)
      obtain ⟨mm, em⟩ : ∃ mm : Nat, 1 + drawF r (sp + 4) 3 = (mm : Int) := ⟨(1 + drawF r (sp + 4) 3).toNat, by omega⟩
      have yl13 : yL (yo K) H13 lv (ends (line Lk b)) := Mono.mono (T := T) r13 yl
      have yb13 : yk K H13 bv b := Mono.mono (T := T) (Y := yk K) (r12.trans r13) yb
      refine q_set (T := T) (Y := yact K) (a := Act.wr b lft rgt mm) (ev_tup (K := K) (T := T) (ds := [.text "write", tI b, oD lft, oD rgt, .text (pre mm)]) (eds_cons ev_strD (eds_cons (ev_kD (ev_var (i := 13) rfl yb13)) (eds_cons (ev_oD (ev_suL (Y := yo K) (P := P) (w := w) (ev_var (i := 14) rfl yl13) (ev_var (i := 15) rfl rfl) (atI_nat hl0))) (eds_cons (ev_oD (ev_suL (Y := yo K) (P := P) (w := w) (i := (gp : Int) + 1) (ev_var (i := 14) rfl yl13) (ev_pl (ev_var (i := 15) rfl rfl) ev_int) (by rw [show (gp : Int) + 1 = ((gp + 1 : Nat) : Int) from by omega]; exact atI_nat hr1))) (eds_cons (ev_SD (ev_eq (ev_slX ev_str eo_none (eo_some (ev_pl ev_int (ev_draw (rv0 H13 _ ws13.rp rfl) (ev_pl (ev_var (i := 7) rfl rfl) ev_int) ev_int hr0 (by omega) (by decide)))) (by decide +kernel)) (by rw [em]; rfl))) eds_nil))))) (by show 5 ≤ sizeLine; decide)) fun av H14 r14 ya => ?_
      have ws14 := ws13.more r14
      have fx : FitsX Lk (Act.wr b lft rgt mm) := ⟨ib, ⟨gp, hl0, hr1⟩, by omega, by omega⟩
      refine q_ifsJ (T := T) (c := decide (drawF r (sp + 5) 9 = 0)) (fun σ' H' => ∃ av act, σ' = [some rv, some (.int a), some (.int m), some (.int hd), some (.ref lc), some (.ref ld), some (.int (i : Int)), some (.int sp), some (.int (h : Int)), some (.int (o : Int)), some sev, some tv, some bsv, some bv, some lv, some (.int (gp : Int)), some av, none, none] ∧ WS T K H H' lc ld cs' L ∧ yact K H' av act ∧ FitsX Lk act ∧ yk K H' sev c) (et_test (ev_eqI (ev_draw (rv0 H14 _ ws14.rp rfl) (ev_pl (ev_var (i := 7) rfl rfl) ev_int) ev_int hr0 (by omega) (by decide)) ev_int)) (fun _ H15 r15 back => ?_) (fun _ H15 r15 => ?_) ?_
      · refine q_set (T := T) (Y := yact K) (a := Act.bk b) (ev_tup (K := K) (T := T) (ds := [.text "block", tI b, .none]) (eds_cons ev_strD (eds_cons (ev_kD (ev_var (i := 13) rfl (Mono.mono (T := T) (Y := yk K) (r14.trans r15) yb13))) (eds_cons ev_nonD eds_nil))) (by show 3 ≤ sizeLine; decide)) fun av2 H16 r16 ya2 => ?_
        exact back _ H16 ⟨av2, Act.bk b, rfl, ws14.more (r15.trans r16), ya2, ib, Mono.mono (T := T) (Y := yk K) (r9.trans (r10.trans (r11.trans (r12.trans (r13.trans (r14.trans (r15.trans r16))))))) ys⟩
      · exact ⟨av, Act.wr b lft rgt mm, rfl, ws14.more r15, Mono.mono (T := T) (Y := yact K) r15 ya, fx, Mono.mono (T := T) (Y := yk K) (r9.trans (r10.trans (r11.trans (r12.trans (r13.trans (r14.trans r15)))))) ys⟩
      · rintro σ8 H15 ⟨av2, act, eσ, ws15, ya2, fx2, ys15⟩
        subst eσ
        rw [← hKn] at fx2
        have W2 := W'.write h4 ec fx2
        have cl4 := cut.len
        have cg : atI c (h : Int) = some (ck c ((h : Int) + 1)) := by
          have z := ck_at cut.len (h := (h : Int) + 1) ⟨by omega, by omega⟩
          rw [show (h : Int) + 1 - 1 = (h : Int) from by omega] at z
          exact z
        refine s_deed (T := T) (K := K) (y := ⟨(h : Int) + 1, ck c ((h : Int) + 1) + 1, c, act⟩) (ev_tup (K := K) (T := T) (ds := [.num ((h : Int) + 1), .num (ck c ((h : Int) + 1) + 1), tI c, act.d]) (eds_cons (ev_ID (ev_pl (ev_var (i := 8) rfl rfl) ev_int)) (eds_cons (ev_ID (ev_pl (ev_suk (K := K) (P := P) (w := w) (ev_var (i := 10) rfl ys15) (ev_var (i := 8) rfl rfl) cg) ev_int)) (eds_cons (ev_kD (ev_var (i := 10) rfl ys15)) (eds_cons (ev_var (i := 16) rfl ya2) eds_nil)))) (by show 4 ≤ sizeLine; decide)) (ev_var (i := 5) rfl rfl) ws15 (by omega) fun H16 tk16 ws16 => ?_
        have ys16 : yk K H16 sev c := Imm.imm (Y := yk K) tk16 ys15
        refine s_clock (T := T) (K := K) (c := bump c h) (j := h) (ev_Tk (ev_tuple (ev_eq (ev_lm (T := T) (Y := yI) (Z := yI) (bs := (List.range 4).map fun (i : Nat) => (i : Int)) (fun i => c.getD i.toNat 0 + (if i = (h : Int) then 1 else 0)) (evi_range (n := 4) (ea_int ev_int) (by decide) (by decide)) (fun q hq ov H1 r1 e => ?_) (fun _ => rfl) (by rw [List.length_map, List.length_range]; decide)) (bump_eq c h).symm))) (ev_var (i := 4) rfl rfl) (ev_var (i := 8) rfl rfl) ws16 (by rw [W'.len]; exact h4) fun H17 ws17 => ?_
        · obtain rfl : ov = V.int q := e
          obtain ⟨j, hj, ej⟩ := List.mem_map.mp hq
          have hj := List.mem_range.mp hj
          refine ev_pl (ev_suk (K := K) (P := P) (w := w) (ev_var (i := 10) rfl (Mono.mono (T := T) (Y := yk K) r1 ys16)) (ev_var (i := 18) rfl rfl) (atI_getD (by omega) (by omega))) ?_
          refine ev_ifE (c := decide (q = (h : Int))) (et_test (ev_eqI (ev_var (i := 18) rfl rfl) (ev_var (i := 8) rfl rfl))) (fun z => ?_) (fun z => ?_)
          · rw [if_pos (of_decide_eq_true z)]
            exact ev_int
          · rw [if_neg (of_decide_eq_false z)]
            exact ev_int
        · exact ⟨⟨_, _, _, _, _, _, _, _, _, _, _, rfl⟩, _, _, ws17, W2, by rw [List.length_append, hL]; rfl⟩
  · rintro σ' H' ⟨⟨x1, x2, x3, x4, x5, x6, x7, x8, x9, x10, x11, eσ⟩, cs, L, ws, W, hL⟩
    subst eσ
    rw [Int.toNat_natCast] at hL
    exact ⟨.ref ld, rfl, kk H' _ L ws.rp ws.yD W.good hL⟩
end
end K20
namespace K20
open PySem PySem.Spec PyProof.Rows L2
section
variable {P : Program} {w : World} {K : Fg} {mg : Str → Option Value} {base : Heap} {T : List (Addr × Str)} {H H' H0 H1 : Hp} {σ : L2.St} {te ta tb : TE} {En : Ends}
theorem row_dtl : ∀ {vs : List V} {ks : List (List Int)}, Paired (yk K H) vs ks → DtL K H vs (ks.map tI)
  | _, _, .nil => .nil
  | _, _, .cons a t => .cons a (row_dtl t)
/-- == of lists of ids -/
theorem ev_eqLk {ks : List (List Int)} (ha : Ev T (yL (yk K)) ta σ H ks) (hb : Ev T (yL (yk K)) tb σ H ks) (h1 : ks.length ≤ 5000) (h2 : ∀ k ∈ ks, k.length ≤ 5000) : Ev T yB (tOp (rEqL K) ta tb) σ H true :=
  ev_op ha hb fun H1 x y _ ⟨a, vs, e1, s1, l1⟩ ⟨b, us, e2, s2, l2⟩ Q q => ⟨a, b, vs, us, ks.map tI, ks.map tI, e1, e2, SqL.of s1, SqL.of s2, row_dtl l1, row_dtl l2, (so_row h1 h2).1, (so_row h1 h2).1, by rw [decide_eq_true rfl]; exact q _ H1 (Rp.refl _) rfl⟩
/-- e.field -/
theorem ev_xf {a0 C d : Addr} {f : Str} {bv : V} {b : List Int} {i : Nat} (e : σ[i]? = some (some (.ref a0))) (hd : H d = some (.xd [(f, bv)])) (y : yk K H bv b) : Ev T (yk K) (tXf a0 (.ref C) (some d) C f (tVar i)) σ H b := fun H1 r1 Q q =>
  ⟨.ref a0, e, rfl, rfl, d, [(f, bv)], bv, rfl, r1.keep _ _ hd (fun _ z => by cases z), lk_hit, q bv H1 (Rp.refl _) (Mono.mono (T := T) (Y := yk K) r1 y)⟩
/-- what was found -/
structure Fd (T : List (Addr × Str)) (K : Fg) (Hb H : Hp) (lf : Addr) (ks : List (List Int)) : Prop where
  rp : Rp T Hb H
  at_ : ∃ vs, H lf = some (.lst vs) ∧ Paired (yk K H) vs ks
  nw : Nw Hb lf
theorem Fd.more {Hb : Hp} {lf : Addr} {ks : List (List Int)} (x : Fd T K Hb H lf ks) (r : Rp T H H') : Fd T K Hb H' lf ks := by
  obtain ⟨vs, h1, h2⟩ := x.at_
  exact ⟨x.rp.trans r, ⟨vs, r.lst h1, paired_mono r h2⟩, x.nw⟩
theorem fd_put {Hb : Hp} {lf a0 C d : Addr} {ks : List (List Int)} {f : Str} {bv : V} {b : List Int} {i j : Nat} (x : Fd T K Hb H lf ks) (hl : ks.length ≤ 10) (e : σ[i]? = some (some (.ref a0))) (e2 : σ[j]? = some (some (.ref lf))) (hd : H d = some (.xd [(f, bv)])) (y : yk K H bv b)
    (k : ∀ H', Fd T K Hb H' lf (ks ++ [b]) → En.nx σ H') : tDrop (tBM K "list" rAppend (tVar j) (tCons (tXf a0 (.ref C) (some d) C f (tVar i)) tNil)) En σ H := by
  obtain ⟨vs, h1, h2⟩ := x.at_
  refine s_append (T := T) (Y := yk K) (b := b) (l := lf) (xs := vs) (ev_var e2 rfl) (ev_xf e hd y) h1 (by rw [h2.length]; exact Nat.lt_of_le_of_lt hl (by decide)) fun v H1 r1 y1 => ?_
  have h3 := r1.lst h1
  have tk : Tk H1 (upd H1 lf (.lst (vs ++ [v]))) := Tk.updL h3
  exact k _ ⟨(x.rp.trans r1).chgLN x.nw h3, ⟨_, upd_same, paired_imm tk (paired_snocG (paired_mono r1 h2) y1)⟩, x.nw⟩
theorem sc__law_refused : FnScope ["_law_told", "_law_block", "_law_sign", "_law_found", "e"] ["_law_told", "_law_block", "_law_sign"] (defScope s__law_refused) := ⟨rfl, rfl, rfl, by decide +kernel, rfl, by decide +kernel, by decide +kernel⟩
theorem bd__law_refused (E : Tp K mg w T base) : Binds K E.d__law_refused ["_law_told", "_law_block", "_law_sign"] [] := E.F__law_refused.bindsN fun _ _ _ _ _ _ us hl => match us, hl with | [_, _, _], _ => rfl
def sp_refused (E : Tp K mg w T base) (P : Program) : Sp := fun vs H Q _ => ∃ (v bv sv : V) (S L : List Deed) (b s : List Int), vs = [v, bv, sv] ∧ Told K T H v S L ∧ yk K H bv b ∧ yk K H sv s ∧ b.length ≤ 5000 ∧ s.length ≤ 5000 ∧ ¬ IsBlock L b ∧ s ∉ keysC (ctree L) ∧ ∀ H', Rp T H H' → Q (.bl true) H'
theorem ok__law_refused (E : Tp K mg w T base) : FnOk P w K mg base CX0 15 E.f__law_refused E.d__law_refused ["_law_told", "_law_block", "_law_sign"] (sp_refused E P) := by
  refine E.F__law_refused.ok sc__law_refused (fun vs H Q Ex h => ?_) (fun cdv Ar outer s H vs Q Ex hr h => ⟨_, PSs.nox (pss_cons (ps_set (i := 3) sc__law_refused.nd rfl (.inl rfl) (pe_lst pa_nil)) (pss_cons (ps_try_as (i := 4) (tb := fun W => tDrop (tCallS (sp_rowof E P) (WE W) (tCons (tVar 0) (tCons (tVar 1) tNil)))) (ts := fun a cls d => tDrop (tBM K "list" rAppend (tVar 3) (tCons (tXf a cls d E.C_NoBlock "block" (tVar 4)) tNil))) (Wout := fun _ _ _ _ => False) rfl rfl sc__law_refused.nd rfl rfl ⟨by rfl, by decide, Or.inl E.g_NoBlock⟩ takes0 (fun W pn xe tk _ => pss_one (ps_expr (pe_callS (ok_row_of (T := T) E) (hr.mono (by decide)) (by rfl) E.g_row_of E.F_row_of.kp (bd_row_of E) (fun σ => passAt tk σ) (pa_cons (pv 0) (pa_cons (pv 1) pa_nil))))) (fun a oe cls d pn hz hf => pss_one (ps_expr (pe_bm PySem.F.plainAttrs_list PySem.F.slot_list_append PySem.F.type_list_append mt_append (pv 3) (pa_cons (pe_xf E.xf_NoBlock E.n_NoBlock hz hf (pv 4)) pa_nil))))) (pss_cons (ps_try_as (i := 4) (tb := fun W => tDrop (tCallS (sp_rowof E P) (WE W) (tCons (tVar 0) (tCons (tVar 1) tNil)))) (ts := fun a cls d => tDrop (tBM K "list" rAppend (tVar 3) (tCons (tXf a cls d E.C_NoBlock "block" (tVar 4)) tNil))) (Wout := fun _ _ _ _ => False) rfl rfl sc__law_refused.nd rfl rfl ⟨by rfl, by decide, Or.inl E.g_NoBlock⟩ takes0 (fun W pn xe tk _ => pss_one (ps_expr (pe_callS (ok_open_row_signs (T := T) E) (hr.mono (by decide)) (by rfl) E.g_open_row_signs E.F_open_row_signs.kp (bd_open_row_signs E) (fun σ => passAt tk σ) (pa_cons (pv 0) (pa_cons (pv 1) pa_nil))))) (fun a oe cls d pn hz hf => pss_one (ps_expr (pe_bm PySem.F.plainAttrs_list PySem.F.slot_list_append PySem.F.type_list_append mt_append (pv 3) (pa_cons (pe_xf E.xf_NoBlock E.n_NoBlock hz hf (pv 4)) pa_nil))))) (pss_cons (ps_try_as (i := 4) (tb := fun W => tDrop (tCallS (sp_parent E P) (WE W) (tCons (tVar 0) (tCons (tVar 2) tNil)))) (ts := fun a cls d => tDrop (tBM K "list" rAppend (tVar 3) (tCons (tXf a cls d E.C_NoSign "sign" (tVar 4)) tNil))) (Wout := fun _ _ _ _ => False) rfl rfl sc__law_refused.nd rfl rfl ⟨by rfl, by decide, Or.inl E.g_NoSign⟩ takes0 (fun W pn xe tk _ => pss_one (ps_expr (pe_callS (ok_parent_of (T := T) E) (hr.mono (by decide)) (by rfl) E.g_parent_of E.F_parent_of.kp (bd_parent_of E) (fun σ => passAt tk σ) (pa_cons (pv 0) (pa_cons (pv 2) pa_nil))))) (fun a oe cls d pn hz hf => pss_one (ps_expr (pe_bm PySem.F.plainAttrs_list PySem.F.slot_list_append PySem.F.type_list_append mt_append (pv 3) (pa_cons (pe_xf E.xf_NoSign E.n_NoSign hz hf (pv 4)) pa_nil))))) (pss_one (ps_ret (pe_cmpR (op_eqL (hu64 hr)) (pv 3) (pe_lst (pa_cons (pv 1) (pa_cons (pv 1) (pa_cons (pv 2) pa_nil)))) (nomark _)))))))), ?_⟩)
  · obtain ⟨v, bv, sv, S, L, b, s, rfl, _⟩ := h
    rfl
  obtain ⟨v, bv, sv, S, L, b, s, rfl, to, yb, ys, lb, ls, nb, ns, kk⟩ := h
  refine q_set (T := T) (Y := yLN H (yk K)) (a := ([] : List (List Int))) (ev_lstN eds_nil (by show 0 ≤ sizeLine; decide)) fun fv H1 r1 ⟨lf, vs0, ef, hf, nf, pf⟩ => ?_
  subst ef
  cases pf
  have f1 : Fd T K H H1 lf [] := ⟨r1, ⟨[], hf, .nil⟩, nf⟩
  refine ⟨v, rfl, bv, rfl, v, bv, S, L, b, rfl, to.rp f1.rp, Mono.mono (T := T) (Y := yk K) f1.rp yb, fun ib => absurd ib nb, fun _ H2 d2 r2 hd2 => ⟨true, E.e_NoBlock, fun _ a2 _ => ?_, fun z => by cases z⟩⟩
  have f2 := f1.more r2
  refine fd_put (T := T) (K := K) (σ := [some v, some bv, some sv, some (.ref lf), some (.ref a2)]) f2 (by decide) rfl rfl hd2 (Mono.mono (T := T) (Y := yk K) f2.rp yb) fun H3 f3 => ?_
  refine ⟨v, rfl, bv, rfl, v, bv, S, L, b, rfl, to.rp f3.rp, Mono.mono (T := T) (Y := yk K) f3.rp yb, fun ib => absurd ib nb, fun _ H4 d4 r4 hd4 => ⟨true, E.e_NoBlock, fun _ a4 _ => ?_, fun z => by cases z⟩⟩
  have f4 := f3.more r4
  refine fd_put (T := T) (K := K) (σ := [some v, some bv, some sv, some (.ref lf), some (.ref a4)]) f4 (by show 1 ≤ 10; omega) rfl rfl hd4 (Mono.mono (T := T) (Y := yk K) f4.rp yb) fun H5 f5 => ?_
  refine ⟨v, rfl, sv, rfl, v, sv, S, L, s, rfl, to.rp f5.rp, Mono.mono (T := T) (Y := yk K) f5.rp ys, fun b' pl' h' => absurd (mem_ctree.mpr ⟨b', lu_key h'⟩) ns, fun _ H6 d6 r6 hd6 => ⟨true, E.e_NoSign, fun _ a6 _ => ?_, fun z => by cases z⟩⟩
  have f6 := f5.more r6
  refine fd_put (T := T) (K := K) (σ := [some v, some bv, some sv, some (.ref lf), some (.ref a6)]) f6 (by show 2 ≤ 10; omega) rfl rfl hd6 (Mono.mono (T := T) (Y := yk K) f6.rp ys) fun H7 f7 => ?_
  obtain ⟨vs, h1, h2⟩ := f7.at_
  refine ev_eqLk (T := T) (K := K) (ks := [b, b, s]) (σ := [some v, some bv, some sv, some (.ref lf), none]) (ev_var (i := 3) rfl ⟨lf, vs, rfl, h1, h2⟩) (ev_lst (eds_cons (ev_var (i := 1) rfl (Mono.mono (T := T) (Y := yk K) f7.rp yb)) (eds_cons (ev_var (i := 1) rfl (Mono.mono (T := T) (Y := yk K) f7.rp yb)) (eds_cons (ev_var (i := 2) rfl (Mono.mono (T := T) (Y := yk K) f7.rp ys)) eds_nil))) (by show 3 ≤ sizeLine; decide)) (by show 3 ≤ 5000; omega) (fun k hk => ?_) H7 (Rp.refl _) _ fun u H8 r8 eu => ?_
  · rcases List.mem_cons.mp hk with z | hk
    · rw [z]; exact lb
    · rcases List.mem_cons.mp hk with z | hk
      · rw [z]; exact lb
      · rw [List.mem_singleton.mp hk]; exact ls
  · obtain rfl : u = V.bl true := eu
    exact kk H8 (f7.rp.trans r8)
end
end K20
namespace K20
open PySem PySem.Spec PyProof.Rows L2
section
variable {P : Program} {w : World} {K : Fg} {mg : Str → Option Value} {base : Heap} {T : List (Addr × Str)} {H H' H0 H1 : Hp} {σ : L2.St} {te ta tb tc : TE} {En : Ends} {Wk : L2.St → XK}
def yTd (K : Fg) (T : List (Addr × Str)) : Hp → V → List Deed → Prop := fun H v L => ∃ S, Told K T H v S L
instance : Mono T (yTd K T) := ⟨fun r ⟨S, to⟩ => ⟨S, to.rp r⟩⟩
theorem ev_agrees {E : Tp K mg w T base} {L : List Deed} (h1 : Ev T (yTd K T) ta σ H L) (h2 : Ev T (yL (ydd K)) tb σ H L) : Ev T yB (tCall (sp_agrees E P) [] E0 (tCons ta (tCons tb tNil))) σ H true := fun H1 r1 Q q =>
  h1 H1 r1 _ fun v H2 r2 ⟨S, to⟩ => h2 H2 (r1.trans r2) _ fun u H3 r3 yu => ⟨v, u, S, L, rfl, to.rp r3, yu, fun H4 r4 => q _ H4 (r2.trans (r3.trans r4)) rfl⟩
theorem ev_part {E : Tp K mg w T base} {L : List Deed} {x : Deed} (h1 : Ev T (yTd K T) ta σ H L) (h2 : Ev T (yk K) tb σ H x.seen) (hx : x ∈ L) : Ev T (yTd K T) (tCall (sp_part E P) [] E0 (tCons ta (tCons tb tNil))) σ H (known L x.seen) := fun H1 r1 Q q =>
  h1 H1 r1 _ fun v H2 r2 ⟨S, to⟩ => h2 H2 (r1.trans r2) _ fun u H3 r3 yu => by
    have t3 := to.rp r3
    refine ⟨v, u, S, L, x.seen, rfl, t3.tb, t3.y, yu, t3.p, t3.g, t3.len, ⟨x, hx, rfl⟩, fun H4 o M r4 pM gM yM' => q o H4 (r2.trans (r3.trans r4)) ⟨M, r4.tabs t3.tb, .inr yM', pM, t3.g.seen hx, ?_⟩⟩
    rw [pM.length_eq]
    refine Nat.le_trans (List.length_filter_le _ _) ?_
    rw [← t3.p.length_eq]
    exact t3.len
theorem ev_refused {E : Tp K mg w T base} {L : List Deed} {b s : List Int} (h1 : Ev T (yTd K T) ta σ H L) (h2 : Ev T (yk K) tb σ H b) (h3 : Ev T (yk K) tc σ H s) (lb : b.length ≤ 5000) (ls : s.length ≤ 5000) (nb : ¬ IsBlock L b) (ns : s ∉ keysC (ctree L)) :
    Ev T yB (tCall (sp_refused E P) [] E0 (tCons ta (tCons tb (tCons tc tNil)))) σ H true := fun H1 r1 Q q =>
  h1 H1 r1 _ fun v H2 r2 ⟨S, to⟩ => h2 H2 (r1.trans r2) _ fun u H3 r3 yb => h3 H3 (r1.trans (r2.trans r3)) _ fun z H4 r4 ys =>
    ⟨v, u, z, S, L, b, s, rfl, to.rp (r3.trans r4), Mono.mono (T := T) (Y := yk K) r4 yb, ys, lb, ls, nb, ns, fun H5 r5 => q _ H5 (r2.trans (r3.trans (r4.trans r5))) rfl⟩
theorem ev_rowof2 {E : Tp K mg w T base} {L : List Deed} {b : List Int} (h1 : Ev T (yTd K T) ta σ H L) (ib : IsBlock L b) (hb : Ev T (yk K) tb σ H b) :
    Ev T (yT K (yk K)) (tCallS (sp_rowof E P) Wk (tCons ta (tCons tb tNil))) σ H (line L b) := fun H1 r1 Q q =>
  h1 H1 r1 _ fun v H2 r2 ⟨S, to⟩ => hb H2 (r1.trans r2) _ fun bv H3 r3 yb => ⟨v, bv, S, L, b, rfl, to.rp r3, yb, fun _ H' u r y => q u H' (r2.trans (r3.trans r)) y, fun nb => absurd ib nb⟩
/-- () -/
theorem ev_none (hT : LamX.Tabs T H) : Ev T (yTd K T) (tTup tNil) σ H [] := fun H1 r1 Q q =>
  ⟨by show 0 ≤ sizeLine; decide, fun p hp => q (.ref p) _ (Rp.new hp) ⟨[], (r1.trans (Rp.new hp)).tabs hT, .inr ⟨p, [], rfl, SqT.of upd_same, .nil⟩, .refl _, good_nil, by decide⟩⟩
theorem sc_law : FnScope ["_law_script", "_law_row_here", "_law_deeds", "_law_mixed_here", "_law_k", "_law_one", "_law_last", "_law_wrong"] ["_law_script"] (defScope s_law) := ⟨rfl, rfl, rfl, by decide +kernel, rfl, by decide +kernel, by decide +kernel⟩
theorem bd_law (E : Tp K mg w T base) : Binds K E.d_law ["_law_script"] [] := E.F_law.bindsN fun _ _ _ _ _ _ us hl => match us, hl with | [_], _ => rfl
def sp_law (K : Fg) (T : List (Addr × Str)) : Sp := fun vs H Q _ => ∃ (a : Addr) (ns : List Int), vs = [.ref a] ∧ SqL K H a (ns.map V.int) ∧ LamX.Tabs T H ∧ ∀ H', Q (.bl true) H'
theorem ok_law (E : Tp K mg w T base) : FnOk P w K mg base CX0 16 E.f_law E.d_law ["_law_script"] (sp_law K T) := by
  refine E.F_law.ok sc_law (fun vs H Q Ex h => ?_) (fun cdv Ar outer s H vs Q Ex hr h => ⟨_, PSs.nox (pss_cons (ps_set (i := 1) sc_law.nd rfl (.inl rfl) (pe_call (ok__law_numbers (T := T) E) (hr.mono (by decide)) (by rfl) E.g__law_numbers E.F__law_numbers.kp (bd__law_numbers E) .nil pass0 (pa_cons (pv 0) pa_nil))) (pss_cons (ps_set (i := 2) sc_law.nd rfl (.inl rfl) (pe_call (ok__law_written (T := T) E) (hr.mono (by decide)) (by rfl) E.g__law_written E.F__law_written.kp (bd__law_written E) .nil pass0 (pa_cons (pv 1) (pa_cons pe_int (pa_cons (pe_op op_plus pe_int (pe_callB (call_min2 rfl) (by rfl) E.min (by decide +kernel) (pa_cons (pe_op op_fdivW (pe_callB call_lenU (by rfl) E.len (by decide +kernel) (pa_cons (pv 1) pa_nil)) pe_int) (pa_cons pe_int pa_nil)))) (pa_cons (pe_op op_plus pe_int (pe_call (ok__law_draw (T := T) E) (hr.mono (by decide)) (by rfl) E.g__law_draw E.F__law_draw.kp (bd__law_draw E) .nil pass0 (pa_cons (pv 1) (pa_cons pe_int (pa_cons pe_int pa_nil))))) pa_nil)))))) (pss_cons (ps_set (i := 3) sc_law.nd rfl (.inl rfl) (pe_call (ok__law_mixed (T := T) E) (hr.mono (by decide)) (by rfl) E.g__law_mixed E.F__law_mixed.kp (bd__law_mixed E) .nil pass0 (pa_cons (pv 1) (pa_cons pe_int (pa_cons (pv 2) pa_nil))))) (pss_cons (ps_if (pt_not (pt_val (pe_call (ok__law_agrees (T := T) E) (hr.mono (by decide)) (by rfl) E.g__law_agrees E.F__law_agrees.kp (bd__law_agrees E) .nil pass0 (pa_cons (pv 3) (pa_cons (pv 2) pa_nil))))) (pss_one (ps_ret pe_bl)) pss_nil) (pss_cons (ps_for PassesOwn.never rfl (pi_range1 (by rfl) E.range (pa_cons pe_int pa_nil)) (pg_name (i := 4) sc_law.nd rfl (.inl rfl)) (pss_cons (ps_set (i := 5) sc_law.nd rfl (.inl rfl) (pe_ix (ix_any (hu9 hr)) (pv 2) (pe_call (ok__law_draw (T := T) E) (hr.mono (by decide)) (by rfl) E.g__law_draw E.F__law_draw.kp (bd__law_draw E) .nil pass0 (pa_cons (pv 1) (pa_cons (pe_op op_plus pe_int (pv 4)) (pa_cons (pe_callB call_lenU (by rfl) E.len (by decide +kernel) (pa_cons (pv 2) pa_nil)) pa_nil)))) (fun _ _ => by rfl))) (pss_one (ps_if (pt_not (pt_val (pe_call (ok__law_agrees (T := T) E) (hr.mono (by decide)) (by rfl) E.g__law_agrees E.F__law_agrees.kp (bd__law_agrees E) .nil pass0 (pa_cons (pe_call (ok_part (T := T) E) (hr.mono (by decide)) (by rfl) E.g_part E.F_part.kp (bd_part E) .nil pass0 (pa_cons (pv 3) (pa_cons (pe_ix (ix_any (hu9 hr)) (pv 5) pe_int (fun _ _ => by rfl)) pa_nil))) (pa_cons (pe_call (ok__law_known (T := T) E) (hr.mono (by decide)) (by rfl) E.g__law_known E.F__law_known.kp (bd__law_known E) .nil pass0 (pa_cons (pv 2) (pa_cons (pe_ix (ix_any (hu9 hr)) (pv 5) pe_int (fun _ _ => by rfl)) pa_nil))) pa_nil))))) (pss_one (ps_ret pe_bl)) pss_nil)))) (pss_cons (ps_set (i := 6) sc_law.nd rfl (.inl rfl) (pe_ix (ix_any (hu9 hr)) (pv 2) (pe_op op_sub (pe_callB call_lenU (by rfl) E.len (by decide +kernel) (pa_cons (pv 2) pa_nil)) pe_int) (fun _ _ => by rfl))) (pss_cons (ps_set (i := 7) sc_law.nd rfl (.inl rfl) (pe_tup (pa_cons (pe_ix (ix_any (hu9 hr)) (pv 6) pe_int (fun _ _ => by rfl)) (pa_cons (pe_op op_plus (pe_ix (ix_any (hu9 hr)) (pv 6) pe_int (fun _ _ => by rfl)) pe_int) pa_nil)))) (pss_cons (ps_if (pt_cmpR (op_eqK (hu64 hr)) (pe_ix (ix_any (hu9 hr)) (pe_ix (ix_any (hu9 hr)) (pv 6) pe_int (fun _ _ => by rfl)) pe_int (fun _ _ => by rfl)) pe_str (nomark _)) (pss_one (ps_set (i := 7) sc_law.nd rfl (.inl rfl) (pe_tup (pa_cons (pe_ix (ix_any (hu9 hr)) (pv 6) pe_int (fun _ _ => by rfl)) (pa_cons (pe_ix (ix_any (hu9 hr)) (pv 6) pe_int (fun _ _ => by rfl)) pa_nil))))) pss_nil) (pss_one (ps_ret (pe_and (pe_call (ok__law_refused (T := T) E) (hr.mono (by decide)) (by rfl) E.g__law_refused E.F__law_refused.kp (bd__law_refused E) .nil pass0 (pa_cons (pv 3) (pa_cons (pv 7) (pa_cons (pe_tup (pa_cons (pe_ix (ix_any (hu9 hr)) (pv 6) pe_int (fun _ _ => by rfl)) (pa_cons (pe_ix (ix_any (hu9 hr)) (pv 6) pe_int (fun _ _ => by rfl)) (pa_cons pe_int pa_nil)))) pa_nil)))) (pe_and (pe_call (ok__law_refused (T := T) E) (hr.mono (by decide)) (by rfl) E.g__law_refused E.F__law_refused.kp (bd__law_refused E) .nil pass0 (pa_cons (pe_tup pa_nil) (pa_cons (pe_tup (pa_cons pe_int (pa_cons pe_int pa_nil))) (pa_cons (pe_tup (pa_cons pe_int (pa_cons pe_int (pa_cons pe_int pa_nil)))) pa_nil)))) (pe_one (pe_call (ok__law_so (T := T) E 3) (hr.mono (by decide)) (by rfl) E.g__law_so E.F__law_so.kp (bd__law_so E) .nil pass0 (pa_cons (pe_callS (ok_row_of (T := T) E) (hr.mono (by decide)) (by rfl) E.g_row_of E.F_row_of.kp (bd_row_of E) (fun σ => passAt (takes0 (X := _)) σ) (pa_cons (pe_tup pa_nil) (pa_cons (pe_tup (pa_cons pe_int (pa_cons pe_int pa_nil))) pa_nil))) (pa_cons (pe_tup pa_nil) pa_nil)))))))))))))))), ?_⟩)
  · obtain ⟨a, ns, rfl, _⟩ := h
    rfl
  obtain ⟨a, ns, rfl, hs, hT, kk⟩ := h
  refine ⟨.ref a, rfl, .ref a, ns, rfl, ⟨a, rfl, hs⟩, fun H1 rv r r1 yr hr0 hrl => ?_⟩
  dsimp only [gName]
  have rv1 : ∀ (H2 : Hp) (σ' : L2.St), Rp T H1 H2 → σ'[1]? = some (some rv) → Ev T (yL yI) (tVar 1) σ' H2 r := fun H2 σ' q e => ev_var e (Mono.mono q yr)
  refine ⟨rv, rfl, ?_⟩
  refine ev_pl (K := K) (T := T) (i := 4) (j := if (10 : Int) < (r.length : Int) / 3 then 10 else (r.length : Int) / 3) ev_int (ev_min2 rfl (ev_fdiv (ev_leL (K := K) (P := P) (w := w) (rv1 H1 ([some (.ref a), some rv, none, none, none, none, none, none]) (Rp.refl _) rfl)) ev_int ⟨by decide, by decide +kernel⟩) ev_int) H1 (Rp.refl _) _ fun v3 H2 r2 e3 => ?_
  refine ev_pl (K := K) (T := T) (i := 2) (j := drawF r 0 3) ev_int (ev_draw (rv1 H2 ([some (.ref a), some rv, none, none, none, none, none, none]) r2 rfl) ev_int ev_int hr0 (by decide) (by decide)) H2 (Rp.refl _) _ fun v4 H3 r3 e4 => ?_
  obtain ⟨d0, d1⟩ := drawF_lt r 0 (lim := 3) (by decide)
  obtain ⟨m, em, m4, m14⟩ : ∃ m : Nat, (4 : Int) + (if (10 : Int) < (r.length : Int) / 3 then 10 else (r.length : Int) / 3) = (m : Int) ∧ 4 ≤ m ∧ m ≤ 14 := by
    refine ⟨(4 + (if (10 : Int) < (r.length : Int) / 3 then 10 else (r.length : Int) / 3)).toNat, ?_, ?_, ?_⟩ <;> split <;> omega
  have e3 : v3 = V.int (4 + (if (10 : Int) < (r.length : Int) / 3 then 10 else (r.length : Int) / 3)) := e3
  rw [em] at e3
  have e4 : v4 = V.int (2 + drawF r 0 3) := e4
  obtain ⟨hd, eh⟩ : ∃ hd : Nat, 2 + drawF r 0 3 = (hd : Int) := ⟨(2 + drawF r 0 3).toNat, by omega⟩
  rw [eh] at e4
  subst e3 e4
  refine ⟨rv, r, 1, m, hd, rfl, Mono.mono (T := T) (r2.trans r3) yr, hr0, by decide, by omega, by omega, by omega, fun H4 dv L r4 yd g hLm => ?_⟩
  have r14 := r2.trans (r3.trans r4)
  have r04 := r1.trans r14
  dsimp only [gName]
  have dv2 : ∀ (H5 : Hp) (σ' : L2.St), Rp T H4 H5 → σ'[2]? = some (some dv) → Ev T (yL (ydd K)) (tVar 2) σ' H5 L := fun H5 σ' q e => ev_var e (Mono.mono q yd)
  refine q_set (T := T) (Y := yL (ydd K)) (a := mixF r 5 L L.length) (ev_c3 (T := T) (Y := yL (ydd K)) (f := fun p => mixF p.1 p.2.1 p.2.2 p.2.2.length) (pre := fun p => p.1 ≠ [] ∧ 0 ≤ p.2.1 ∧ p.2.2.length ≤ 60) (Y1 := yL yI) (Y2 := yI) (Y3 := yL (ydd K)) (a := r) (b := 5) (c := L) (E := E0) (rv1 H4 ([some (.ref a), some rv, some dv, none, none, none, none, none]) r14 rfl) ev_int (dv2 H4 ([some (.ref a), some rv, some dv, none, none, none, none, none]) (Rp.refl _) rfl) ⟨hr0, by show (0 : Int) ≤ 5; decide, by show L.length ≤ 60; omega⟩) fun mv H5 r5 ym => ?_
  have r05 := r04.trans r5
  have pm : (mixF r 5 L L.length).Perm L := by
    have z := mixF_perm r 5 L L.length
    rw [List.take_length] at z
    exact z
  have to : Told K T H5 mv (mixF r 5 L L.length) L := ⟨r05.tabs hT, .inl ym, pm, g, by rw [pm.length_eq]; omega⟩
  have mv3 : ∀ (H6 : Hp) (σ' : L2.St), Rp T H5 H6 → σ'[3]? = some (some mv) → Ev T (yTd K T) (tVar 3) σ' H6 L := fun H6 σ' q e => ev_var e ⟨_, to.rp q⟩
  show tSeq (tIfS _ _ _) _ _ ([some (.ref a), some rv, some dv, some mv, none, none, none, none] : L2.St) H5
  refine q_ifs (T := T) (c := false) (evT_eq (et_not (et_B (ev_agrees (E := E) (P := P) (mv3 H5 _ (Rp.refl _) rfl) (dv2 H5 _ r5 rfl)))) rfl) (fun z => by cases z) fun _ H6 r6 => ?_
  refine f_for (T := T) (Y := yI) (bs := (List.range 2).map fun (i : Nat) => (i : Int)) (evi_range (n := 2) (ea_int ev_int) (by decide) (by decide)) (fun i σ' => ∃ x y, σ' = [some (.ref a), some rv, some dv, some mv, x, y, none, none]) ⟨none, none, rfl⟩ fun H7 r7 => ⟨?_, ?_⟩
  · rintro i q σ' H8 x hi r8 ⟨x4, x5, eσ⟩ ex
    subst eσ
    obtain rfl : x = V.int q := ex
    obtain ⟨j, hj, ej⟩ := List.mem_map.mp (List.mem_of_getElem? hi)
    have r58 := r6.trans (r7.trans r8)
    show tSeq (tAsg _ _) _ _ ([some (.ref a), some rv, some dv, some mv, some (.int q), x5, none, none] : L2.St) H8
    obtain ⟨p0, p1⟩ := drawF_lt r (88 + q) (lim := (L.length : Int)) (by omega)
    obtain ⟨y, hy⟩ : ∃ y, L[(drawF r (88 + q) L.length).toNat]? = some y := ⟨_, List.getElem?_eq_getElem (by omega)⟩
    have hyL := List.mem_of_getElem? hy
    refine q_set (T := T) (Y := ydd K) (a := y) (ev_suL (Y := ydd K) (P := P) (w := w) (i := drawF r (88 + q) L.length) (dv2 H8 _ (r5.trans r58) rfl) (ev_draw (rv1 H8 _ (r14.trans (r5.trans r58)) rfl) (ev_pl ev_int (ev_var (i := 4) rfl rfl)) (ev_leL (K := K) (P := P) (w := w) (dv2 H8 _ (r5.trans r58) rfl)) hr0 (by omega) (by omega)) (by
      rw [show drawF r (88 + q) L.length = (((drawF r (88 + q) L.length).toNat : Nat) : Int) from by omega]
      exact atI_nat hy)) fun yv H9 r9 yy => ?_
    have r59 := r58.trans r9
    show tIfS _ _ _ _ ([some (.ref a), some rv, some dv, some mv, some (.int q), some yv, none, none] : L2.St) H9
    refine q_if (T := T) (c := false) (evT_eq (et_not (et_B (ev_agrees (E := E) (P := P) (L := known L y.seen) (ev_part (E := E) (P := P) (x := y) (mv3 H9 _ r59 rfl) (ev_seen (K := K) (P := P) (w := w) (x := y) (ev_var (i := 5) rfl yy) ev_int) hyL) (ev_c2 (T := T) (Y := yL (ydd K)) (f := fun p => known p.1 p.2) (pre := fun p => p.2.length = 4 ∧ (∀ x ∈ p.1, Hand x.h) ∧ p.1.length ≤ 60) (Y1 := yL (ydd K)) (Y2 := yk K) (a := L) (b := y.seen) (E := E0) (dv2 H9 _ (r5.trans r59) rfl) (ev_seen (K := K) (P := P) (w := w) (x := y) (ev_var (i := 5) rfl yy) ev_int) ⟨(g.ok y hyL).len, fun x hx => (g.ok x hx).hand, by show L.length ≤ 60; omega⟩)))) rfl) (fun z => by cases z) fun _ H10 r10 => ⟨r8.trans (r9.trans r10), _, _, rfl⟩
  · rintro σ' H8 r8 ⟨x4, x5, eσ⟩
    subst eσ
    have r58 := r6.trans (r7.trans r8)
    obtain ⟨Pf, x, eL⟩ : ∃ Pf x, L = Pf ++ [x] := ⟨L.dropLast, L.getLast (fun z => by rw [z] at hLm; simp at hLm; omega), (List.dropLast_concat_getLast _).symm⟩
    have hx : x ∈ L := by rw [eL]; exact List.mem_append_right _ List.mem_cons_self
    have hat : atI L ((L.length : Int) - 1) = some x := by
      have e : (L.length : Int) - 1 = ((Pf.length : Nat) : Int) := by rw [eL, List.length_append]; show ((Pf.length + 1 : Nat) : Int) - 1 = _; omega
      rw [e]
      refine atI_nat ?_
      rw [eL, List.getElem?_append_right (Nat.le_refl _), Nat.sub_self]
      rfl
    dsimp only
    refine q_set (T := T) (Y := ydd K) (a := x) (ev_suL (Y := ydd K) (P := P) (w := w) (i := (L.length : Int) - 1) (dv2 H8 ([some (.ref a), some rv, some dv, some mv, x4, x5, none, none]) (r5.trans r58) rfl) (ev_sub (ev_leL (K := K) (P := P) (w := w) (dv2 H8 ([some (.ref a), some rv, some dv, some mv, x4, x5, none, none]) (r5.trans r58) rfl)) ev_int) hat) fun xv H9 r9 yx => ?_
    show tSeq (tAsg _ _) _ _ ([some (.ref a), some rv, some dv, some mv, x4, x5, some xv, none] : L2.St) H9
    have v6 : ∀ (H10 : Hp) (σ' : L2.St), Rp T H9 H10 → σ'[6]? = some (some xv) → Ev T (ydd K) (tVar 6) σ' H10 x := fun H10 σ' q e => ev_var e (Mono.mono (T := T) (Y := ydd K) q yx)
    refine q_set (T := T) (Y := yk K) (a := [x.h, x.n + 1]) (ev_tupk (k := [x.h, x.n + 1]) (eds_cons (ev_h (K := K) (P := P) (w := w) (v6 H9 _ (Rp.refl _) rfl) ev_int) (eds_cons (ev_pl (ev_n (K := K) (P := P) (w := w) (v6 H9 _ (Rp.refl _) rfl) ev_int) ev_int) eds_nil)) (by show 2 ≤ sizeLine; decide)) fun wv H10 r10 yw => ?_
    show tSeq (tIfS _ _ _) _ _ ([some (.ref a), some rv, some dv, some mv, x4, x5, some xv, some wv] : L2.St) H10
    refine q_ifsJ (T := T) (c := decide (x.act.word = "write")) (fun σ' H' => ∃ wv k, σ' = [some (.ref a), some rv, some dv, some mv, x4, x5, some xv, some wv] ∧ Rp T H9 H' ∧ yk K H' wv k ∧ ¬ IsBlock L k ∧ k.length ≤ 5000) (et_test (ev_eqT (ev_word (K := K) (P := P) (w := w) (a := x.act) (ev_act (K := K) (P := P) (w := w) (x := x) (v6 H10 _ r10 rfl) ev_int) ev_int) ev_str (word_ok _) (by decide +kernel))) (fun c H11 r11 back => ?_) (fun _ H11 r11 => ?_) ?_
    · have c := of_decide_eq_true c
      refine q_set (T := T) (Y := yk K) (a := x.id) (ev_tupk (k := x.id) (eds_cons (ev_h (K := K) (P := P) (w := w) (v6 H11 _ (r10.trans r11) rfl) ev_int) (eds_cons (ev_n (K := K) (P := P) (w := w) (v6 H11 _ (r10.trans r11) rfl) ev_int) eds_nil)) (by show 2 ≤ sizeLine; decide)) fun wv2 H12 r12 yw2 => ?_
      refine back _ H12 ⟨wv2, x.id, rfl, r10.trans (r11.trans r12), yw2, ?_, by show 2 ≤ 5000; decide⟩
      cases ha : x.act with
      | bk b =>
        rw [ha] at c
        exact absurd c (by decide +kernel : ¬ (("block" : Str) = "write"))
      | wr b l rr mm => exact no_block_write g hx ha
    · refine ⟨wv, _, rfl, r10.trans r11, Mono.mono (T := T) (Y := yk K) r11 yw, ?_, by show 2 ≤ 5000; decide⟩
      rw [eL] at g ⊢
      exact no_block_next g
    · rintro σ9 H11 ⟨wv2, k, eσ, r911, yw2, nb, lk⟩
      subst eσ
      have r511 := r58.trans (r9.trans r911)
      have t11 := (r05.trans r511).tabs hT
      have z2 : ∀ (σ' : L2.St) (i j : Int), Ev T (yk K) (tTup (tCons (tC (.int i)) (tCons (tC (.int j)) tNil))) σ' H11 [i, j] := fun σ' i j => ev_tupk (k := [i, j]) (eds_cons ev_int (eds_cons ev_int eds_nil)) (by show 2 ≤ sizeLine; decide)
      refine ev_andV (T := T) (a := true) (b := true) (σ := [some (.ref a), some rv, some dv, some mv, x4, x5, some xv, some wv2]) (ev_refused (E := E) (P := P) (L := L) (b := k) (s := sg x 3) (mv3 H11 _ r511 rfl) (ev_var (i := 7) rfl yw2) (ev_tupk (k := sg x 3) (eds_cons (ev_h (K := K) (P := P) (w := w) (v6 H11 _ r911 rfl) ev_int) (eds_cons (ev_n (K := K) (P := P) (w := w) (v6 H11 _ r911 rfl) ev_int) (eds_cons ev_int eds_nil))) (by show 3 ≤ sizeLine; decide)) lk (by show 3 ≤ 5000; decide) nb (no_sign g)) (fun _ => ev_andV (T := T) (a := true) (b := true) (ev_refused (E := E) (P := P) (L := []) (b := [1, 1]) (s := [1, 1, 0]) (ev_none t11) (z2 _ 1 1) (ev_tupk (k := [1, 1, 0]) (eds_cons ev_int (eds_cons ev_int (eds_cons ev_int eds_nil))) (by show 3 ≤ sizeLine; decide)) (by decide) (by decide) (fun z => by
        rcases z with z | ⟨y, hy, _⟩
        · exact absurd z (by decide)
        · cases hy) (fun z => by cases z)) fun _ => ?_) H11 (Rp.refl _) _ fun u H12 r12 eu => ?_
      · have e0 : line [] root = [] := rfl
        have z := ev_rowof2 (E := E) (P := P) (Wk := WE fun _ _ _ _ => False) (L := []) (b := root) (ev_none (K := K) (σ := [some (.ref a), some rv, some dv, some mv, x4, x5, some xv, some wv2]) t11) (.inl rfl) (z2 _ 0 0)
        rw [e0] at z
        exact ev_soD (n := 2) (d := .tup []) (ev_rowD z) (ev_tup eds_nil (by show 0 ≤ sizeLine; decide)) (so_row (ks := []) (by decide) fun k hk => by cases hk)
      · obtain rfl : u = V.bl true := eu
        exact kk H12
end
end K20
namespace K20
open K20H
open PySem PySem.Spec PyProof.Rows L2
/-! ### the head: facts by names -/
def LT (K : Fg) : List (Addr × Str) := [((He.cT K dI).2, (("Deeds.__init__" : Str) ++ ".<locals>.") ++ "<lambda>")]
theorem tp_all {w : World} {K : Fg} {h : Heap} {mg : Str → Option Value} (X : K.In h) (G : h.Ns mainGlobals mg) (c : He.SaysX fa fn ts tf exB w h K) :
    ∃ (E : ∀ base : Heap, LamX.TabB base mg (He.cT K dI).1 (He.cT K dI).2 → Tp K mg w (LT K) base) (fd : FuncData), (∀ base hb, (E base hb).d_law = fd) ∧ (∀ base hb, (E base hb).f_law = He.ga K "law") ∧ FnP K "law" "law" s_law (He.ga K "law") fd := by
  obtain ⟨d_is_integer, F_is_integer⟩ := c.t.d.def_ 0 (d := ⟨("is_integer", none), "is_integer", "is_integer", defArgs s_is_integer, defBody s_is_integer, defScope s_is_integer, [], []⟩) rfl
  obtain ⟨d_is_number, F_is_number⟩ := c.t.d.def_ 1 (d := ⟨("is_number", none), "is_number", "is_number", defArgs s_is_number, defBody s_is_number, defScope s_is_number, [], []⟩) rfl
  obtain ⟨d_is_clock, F_is_clock⟩ := c.t.d.def_ 2 (d := ⟨("is_clock", none), "is_clock", "is_clock", defArgs s_is_clock, defBody s_is_clock, defScope s_is_clock, [], []⟩) rfl
  obtain ⟨d_is_within, F_is_within⟩ := c.t.d.def_ 3 (d := ⟨("is_within", none), "is_within", "is_within", defArgs s_is_within, defBody s_is_within, defScope s_is_within, [], []⟩) rfl
  obtain ⟨d_counts_id, F_counts_id⟩ := c.t.d.def_ 4 (d := ⟨("counts_id", none), "counts_id", "counts_id", defArgs s_counts_id, defBody s_counts_id, defScope s_counts_id, [], []⟩) rfl
  obtain ⟨d_act_of, F_act_of⟩ := c.t.d.def_ 5 (d := ⟨("act_of", none), "act_of", "act_of", defArgs s_act_of, defBody s_act_of, defScope s_act_of, [], []⟩) rfl
  obtain ⟨d_named_by, F_named_by⟩ := c.t.d.def_ 6 (d := ⟨("named_by", none), "named_by", "named_by", defArgs s_named_by, defBody s_named_by, defScope s_named_by, [], []⟩) rfl
  obtain ⟨d_is_block, F_is_block⟩ := c.t.d.def_ 7 (d := ⟨("is_block", none), "is_block", "is_block", defArgs s_is_block, defBody s_is_block, defScope s_is_block, [], []⟩) rfl
  obtain ⟨d_blocks_in, F_blocks_in⟩ := c.t.d.def_ 8 (d := ⟨("blocks_in", none), "blocks_in", "blocks_in", defArgs s_blocks_in, defBody s_blocks_in, defScope s_blocks_in, [], []⟩) rfl
  obtain ⟨d_SignTrees___init__, F_SignTrees___init__⟩ := c.t.d.def_ 9 (d := ⟨("SignTrees", some "__init__"), "__init__", "SignTrees.__init__", defArgs s_SignTrees___init__, defBody s_SignTrees___init__, defScope s_SignTrees___init__, [], []⟩) rfl
  obtain ⟨d_SignTrees_hang_text, F_SignTrees_hang_text⟩ := c.t.d.def_ 10 (d := ⟨("SignTrees", some "hang_text"), "hang_text", "SignTrees.hang_text", defArgs s_SignTrees_hang_text, defBody s_SignTrees_hang_text, defScope s_SignTrees_hang_text, [], []⟩) rfl
  obtain ⟨d_SignTrees_hang, F_SignTrees_hang⟩ := c.t.d.def_ 11 (d := ⟨("SignTrees", some "hang"), "hang", "SignTrees.hang", defArgs s_SignTrees_hang, defBody s_SignTrees_hang, defScope s_SignTrees_hang, [], []⟩) rfl
  obtain ⟨d_SignTrees_place_between, F_SignTrees_place_between⟩ := c.t.d.def_ 12 (d := ⟨("SignTrees", some "place_between"), "place_between", "SignTrees.place_between", defArgs s_SignTrees_place_between, defBody s_SignTrees_place_between, defScope s_SignTrees_place_between, [], []⟩) rfl
  obtain ⟨d_SignTrees_is_above, F_SignTrees_is_above⟩ := c.t.d.def_ 13 (d := ⟨("SignTrees", some "is_above"), "is_above", "SignTrees.is_above", defArgs s_SignTrees_is_above, defBody s_SignTrees_is_above, defScope s_SignTrees_is_above, [], []⟩) rfl
  obtain ⟨d_SignTrees_row_under, F_SignTrees_row_under⟩ := c.t.d.def_ 14 (d := ⟨("SignTrees", some "row_under"), "row_under", "SignTrees.row_under", defArgs s_SignTrees_row_under, defBody s_SignTrees_row_under, defScope s_SignTrees_row_under, [], []⟩) rfl
  obtain ⟨d_trees_of, F_trees_of⟩ := c.t.d.def_ 15 (d := ⟨("trees_of", none), "trees_of", "trees_of", defArgs s_trees_of, defBody s_trees_of, defScope s_trees_of, [], []⟩) rfl
  obtain ⟨d_row, F_row⟩ := c.t.d.def_ 16 (d := ⟨("row", none), "row", "row", defArgs s_row, defBody s_row, defScope s_row, [], []⟩) rfl
  obtain ⟨d_passed, F_passed⟩ := c.t.d.def_ 17 (d := ⟨("passed", none), "passed", "passed", defArgs s_passed, defBody s_passed, defScope s_passed, [], []⟩) rfl
  obtain ⟨d_open_row, F_open_row⟩ := c.t.d.def_ 18 (d := ⟨("open_row_core_signs", none), "open_row", "open_row", defArgs s_open_row, defBody s_open_row, defScope s_open_row, [], []⟩) rfl
  obtain ⟨d_is_hand, F_is_hand⟩ := c.t.d.def_ 19 (d := ⟨("is_hand", none), "is_hand", "is_hand", defArgs s_is_hand, defBody s_is_hand, defScope s_is_hand, [], []⟩) rfl
  obtain ⟨d_is_string_of, F_is_string_of⟩ := c.t.d.def_ 20 (d := ⟨("is_string_of", none), "is_string_of", "is_string_of", defArgs s_is_string_of, defBody s_is_string_of, defScope s_is_string_of, [], []⟩) rfl
  obtain ⟨d_is_word, F_is_word⟩ := c.t.d.def_ 21 (d := ⟨("is_word", none), "is_word", "is_word", defArgs s_is_word, defBody s_is_word, defScope s_is_word, [], []⟩) rfl
  obtain ⟨d_is_text, F_is_text⟩ := c.t.d.def_ 22 (d := ⟨("is_text", none), "is_text", "is_text", defArgs s_is_text, defBody s_is_text, defScope s_is_text, [], []⟩) rfl
  obtain ⟨d_is_deed_id, F_is_deed_id⟩ := c.t.d.def_ 23 (d := ⟨("is_deed_id", none), "is_deed_id", "is_deed_id", defArgs s_is_deed_id, defBody s_is_deed_id, defScope s_is_deed_id, [], []⟩) rfl
  obtain ⟨d_is_block_id, F_is_block_id⟩ := c.t.d.def_ 24 (d := ⟨("is_block_id", none), "is_block_id", "is_block_id", defArgs s_is_block_id, defBody s_is_block_id, defScope s_is_block_id, [], []⟩) rfl
  obtain ⟨d_is_sign_id, F_is_sign_id⟩ := c.t.d.def_ 25 (d := ⟨("is_sign_id", none), "is_sign_id", "is_sign_id", defArgs s_is_sign_id, defBody s_is_sign_id, defScope s_is_sign_id, [], []⟩) rfl
  obtain ⟨d_is_part, F_is_part⟩ := c.t.d.def_ 26 (d := ⟨("is_part", none), "is_part", "is_part", defArgs s_is_part, defBody s_is_part, defScope s_is_part, [], []⟩) rfl
  obtain ⟨d_is_act, F_is_act⟩ := c.t.d.def_ 27 (d := ⟨("is_act", none), "is_act", "is_act", defArgs s_is_act, defBody s_is_act, defScope s_is_act, [], []⟩) rfl
  obtain ⟨d_is_deed, F_is_deed⟩ := c.t.d.def_ 28 (d := ⟨("is_deed", none), "is_deed", "is_deed", defArgs s_is_deed, defBody s_is_deed, defScope s_is_deed, [], []⟩) rfl
  obtain ⟨d_id_of, F_id_of⟩ := c.t.d.def_ 29 (d := ⟨("id_of", none), "id_of", "id_of", defArgs s_id_of, defBody s_id_of, defScope s_id_of, [], []⟩) rfl
  obtain ⟨d_Deeds___init__, F_Deeds___init__⟩ := c.t.d.def_ 30 (d := ⟨("Deeds", some "__init__"), "__init__", "Deeds.__init__", defArgs s_Deeds___init__, defBody s_Deeds___init__, defScope s_Deeds___init__, [], []⟩) rfl
  obtain ⟨d_Deeds_greatest_time, F_Deeds_greatest_time⟩ := c.t.d.def_ 31 (d := ⟨("Deeds", some "greatest_time"), "greatest_time", "Deeds.greatest_time", defArgs s_Deeds_greatest_time, defBody s_Deeds_greatest_time, defScope s_Deeds_greatest_time, [], []⟩) rfl
  obtain ⟨d_Deeds_has, F_Deeds_has⟩ := c.t.d.def_ 32 (d := ⟨("Deeds", some "has"), "has", "Deeds.has", defArgs s_Deeds_has, defBody s_Deeds_has, defScope s_Deeds_has, [], []⟩) rfl
  obtain ⟨d_Deeds_within, F_Deeds_within⟩ := c.t.d.def_ 33 (d := ⟨("Deeds", some "within"), "within", "Deeds.within", defArgs s_Deeds_within, defBody s_Deeds_within, defScope s_Deeds_within, [], []⟩) rfl
  obtain ⟨d_Deeds_in_turn, F_Deeds_in_turn⟩ := c.t.d.def_ 34 (d := ⟨("Deeds", some "in_turn"), "in_turn", "Deeds.in_turn", defArgs s_Deeds_in_turn, defBody s_Deeds_in_turn, defScope s_Deeds_in_turn, [], []⟩) rfl
  obtain ⟨d_Deeds_clock, F_Deeds_clock⟩ := c.t.d.def_ 35 (d := ⟨("Deeds", some "clock"), "clock", "Deeds.clock", defArgs s_Deeds_clock, defBody s_Deeds_clock, defScope s_Deeds_clock, [], []⟩) rfl
  obtain ⟨d_Deeds_is_cut, F_Deeds_is_cut⟩ := c.t.d.def_ 36 (d := ⟨("Deeds", some "is_cut"), "is_cut", "Deeds.is_cut", defArgs s_Deeds_is_cut, defBody s_Deeds_is_cut, defScope s_Deeds_is_cut, [], []⟩) rfl
  obtain ⟨d_Deeds_is_block, F_Deeds_is_block⟩ := c.t.d.def_ 37 (d := ⟨("Deeds", some "is_block"), "is_block", "Deeds.is_block", defArgs s_Deeds_is_block, defBody s_Deeds_is_block, defScope s_Deeds_is_block, [], []⟩) rfl
  obtain ⟨d_are_closed, F_are_closed⟩ := c.t.d.def_ 38 (d := ⟨("are_closed", none), "are_closed", "are_closed", defArgs s_are_closed, defBody s_are_closed, defScope s_are_closed, [], []⟩) rfl
  obtain ⟨d_is_last_a_bar, F_is_last_a_bar⟩ := c.t.d.def_ 39 (d := ⟨("is_last_a_bar", none), "is_last_a_bar", "is_last_a_bar", defArgs s_is_last_a_bar, defBody s_is_last_a_bar, defScope s_is_last_a_bar, [], []⟩) rfl
  obtain ⟨d_are_neighbours, F_are_neighbours⟩ := c.t.d.def_ 40 (d := ⟨("are_neighbours", none), "are_neighbours", "are_neighbours", defArgs s_are_neighbours, defBody s_are_neighbours, defScope s_are_neighbours, [], []⟩) rfl
  obtain ⟨d_fits_write, F_fits_write⟩ := c.t.d.def_ 41 (d := ⟨("fits_write", none), "fits_write", "fits_write", defArgs s_fits_write, defBody s_fits_write, defScope s_fits_write, [], []⟩) rfl
  obtain ⟨d_fits_blocks, F_fits_blocks⟩ := c.t.d.def_ 42 (d := ⟨("fits_blocks", none), "fits_blocks", "fits_blocks", defArgs s_fits_blocks, defBody s_fits_blocks, defScope s_fits_blocks, [], []⟩) rfl
  obtain ⟨d_fits_past, F_fits_past⟩ := c.t.d.def_ 43 (d := ⟨("fits_past", none), "fits_past", "fits_past", defArgs s_fits_past, defBody s_fits_past, defScope s_fits_past, [], []⟩) rfl
  obtain ⟨d_made, F_made⟩ := c.t.d.def_ 44 (d := ⟨("made", none), "made", "made", defArgs s_made, defBody s_made, defScope s_made, [], []⟩) rfl
  obtain ⟨d_need_history, F_need_history⟩ := c.t.d.def_ 45 (d := ⟨("need_history", none), "need_history", "need_history", defArgs s_need_history, defBody s_need_history, defScope s_need_history, [], []⟩) rfl
  obtain ⟨d_part, F_part⟩ := c.t.d.def_ 46 (d := ⟨("part", none), "part", "part", defArgs s_part, defBody s_part, defScope s_part, [], []⟩) rfl
  obtain ⟨d_block_looked_at, F_block_looked_at⟩ := c.t.d.def_ 47 (d := ⟨("block_looked_at", none), "block_looked_at", "block_looked_at", defArgs s_block_looked_at, defBody s_block_looked_at, defScope s_block_looked_at, [], []⟩) rfl
  obtain ⟨d_row_of, F_row_of⟩ := c.t.d.def_ 48 (d := ⟨("row_of", none), "row_of", "row_of", defArgs s_row_of, defBody s_row_of, defScope s_row_of, [], []⟩) rfl
  obtain ⟨d_parent_of, F_parent_of⟩ := c.t.d.def_ 49 (d := ⟨("parent_of", none), "parent_of", "parent_of", defArgs s_parent_of, defBody s_parent_of, defScope s_parent_of, [], []⟩) rfl
  obtain ⟨d_open_row_signs, F_open_row_signs⟩ := c.t.d.def_ 50 (d := ⟨("open_row_signs", none), "open_row", "open_row", defArgs s_open_row_signs, defBody s_open_row_signs, defScope s_open_row_signs, [], []⟩) rfl
  obtain ⟨d__law_so, F__law_so⟩ := c.t.d.def_ 51 (d := ⟨("_law_so", none), "_law_so", "_law_so", defArgs s__law_so, defBody s__law_so, defScope s__law_so, [], []⟩) rfl
  obtain ⟨d__law_numbers, F__law_numbers⟩ := c.t.d.def_ 52 (d := ⟨("_law_numbers", none), "_law_numbers", "_law_numbers", defArgs s__law_numbers, defBody s__law_numbers, defScope s__law_numbers, [], []⟩) rfl
  obtain ⟨d__law_draw, F__law_draw⟩ := c.t.d.def_ 53 (d := ⟨("_law_draw", none), "_law_draw", "_law_draw", defArgs s__law_draw, defBody s__law_draw, defScope s__law_draw, [], []⟩) rfl
  obtain ⟨d__law_id, F__law_id⟩ := c.t.d.def_ 54 (d := ⟨("_law_id", none), "_law_id", "_law_id", defArgs s__law_id, defBody s__law_id, defScope s__law_id, [], []⟩) rfl
  obtain ⟨d__law_known, F__law_known⟩ := c.t.d.def_ 55 (d := ⟨("_law_known", none), "_law_known", "_law_known", defArgs s__law_known, defBody s__law_known, defScope s__law_known, [], []⟩) rfl
  obtain ⟨d__law_both, F__law_both⟩ := c.t.d.def_ 56 (d := ⟨("_law_both", none), "_law_both", "_law_both", defArgs s__law_both, defBody s__law_both, defScope s__law_both, [], []⟩) rfl
  obtain ⟨d__law_mixed, F__law_mixed⟩ := c.t.d.def_ 57 (d := ⟨("_law_mixed", none), "_law_mixed", "_law_mixed", defArgs s__law_mixed, defBody s__law_mixed, defScope s__law_mixed, [], []⟩) rfl
  obtain ⟨d__law_above, F__law_above⟩ := c.t.d.def_ 58 (d := ⟨("_law_above", none), "_law_above", "_law_above", defArgs s__law_above, defBody s__law_above, defScope s__law_above, [], []⟩) rfl
  obtain ⟨d__law_tree, F__law_tree⟩ := c.t.d.def_ 59 (d := ⟨("_law_tree", none), "_law_tree", "_law_tree", defArgs s__law_tree, defBody s__law_tree, defScope s__law_tree, [], []⟩) rfl
  obtain ⟨d__law_row, F__law_row⟩ := c.t.d.def_ 60 (d := ⟨("_law_row", none), "_law_row", "_law_row", defArgs s__law_row, defBody s__law_row, defScope s__law_row, [], []⟩) rfl
  obtain ⟨d__law_written, F__law_written⟩ := c.t.d.def_ 61 (d := ⟨("_law_written", none), "_law_written", "_law_written", defArgs s__law_written, defBody s__law_written, defScope s__law_written, [], []⟩) rfl
  obtain ⟨d__law_places, F__law_places⟩ := c.t.d.def_ 62 (d := ⟨("_law_places", none), "_law_places", "_law_places", defArgs s__law_places, defBody s__law_places, defScope s__law_places, [], []⟩) rfl
  obtain ⟨d__law_agrees, F__law_agrees⟩ := c.t.d.def_ 63 (d := ⟨("_law_agrees", none), "_law_agrees", "_law_agrees", defArgs s__law_agrees, defBody s__law_agrees, defScope s__law_agrees, [], []⟩) rfl
  obtain ⟨d__law_refused, F__law_refused⟩ := c.t.d.def_ 64 (d := ⟨("_law_refused", none), "_law_refused", "_law_refused", defArgs s__law_refused, defBody s__law_refused, defScope s__law_refused, [], []⟩) rfl
  obtain ⟨d_law, F_law⟩ := c.t.d.def_ 65 (d := ⟨("law", none), "law", "law", defArgs s_law, defBody s_law, defScope s_law, [], []⟩) rfl
  obtain ⟨d_NoBlock___init__, F_NoBlock___init__⟩ := c.t.d.def_ 66 (d := ⟨("NoBlock", some "__init__"), "__init__", "NoBlock.__init__", defArgs s_NoBlock___init__, defBody s_NoBlock___init__, defScope s_NoBlock___init__, [], []⟩) rfl
  obtain ⟨d_NoSign___init__, F_NoSign___init__⟩ := c.t.d.def_ 67 (d := ⟨("NoSign", some "__init__"), "__init__", "NoSign.__init__", defArgs s_NoSign___init__, defBody s_NoSign___init__, defScope s_NoSign___init__, [], []⟩) rfl
  obtain ⟨k_LETTERS, g_LETTERS⟩ := He.str_ok X G (c.t.d.fact 100 (f := .str "LETTERS" "abcdefghijklmnopqrstuvwxyz") rfl)
  obtain ⟨k_TEXT_SIGNS, g_TEXT_SIGNS⟩ := He.str_ok X G (c.t.d.fact 101 (f := .str "TEXT_SIGNS" "abcdefghijklmnopqrstuvwxyz ") rfl)
  obtain ⟨k_MOST_SIGNS, g_MOST_SIGNS⟩ := He.int_ok X G (c.t.d.fact 102 (f := .int "MOST_SIGNS" 8) rfl)
  have code_I : d_Deeds___init__.code = .ref (He.cT K dI).1 := by
    obtain ⟨oc, od, dV, kV, doc, pm, an, cdv, ct, osl, efd, lk, hcd, _, _⟩ := F_Deeds___init__.ex
    obtain ⟨cc, ec⟩ := He.codeIn_ref hcd
    have e1 : d_Deeds___init__.code = .ref cc := by rw [efd, ← ec]
    rw [e1]
    exact congrArg Value.ref (He.codeOf_eq lk e1).symm
  obtain ⟨ex_q_HANDS_clocks, m1⟩ := Bool.and_eq_true_iff.mp c.more
  obtain ⟨ex_q_NOUGHT, m2⟩ := Bool.and_eq_true_iff.mp m1
  obtain ⟨ex_q_ROOT_core_signs, m3⟩ := Bool.and_eq_true_iff.mp m2
  obtain ⟨ex_q_ROOT_deeds, m4⟩ := Bool.and_eq_true_iff.mp m3
  obtain ⟨vals, m5⟩ := Bool.and_eq_true_iff.mp m4
  obtain ⟨b1, s1⟩ := Bool.and_eq_true_iff.mp m5
  have v_write := He.valsB_ok vals (q := ("write", .str "bppt")) List.mem_cons_self
  have v_block := He.valsB_ok vals (q := ("block", .str "bB")) (List.mem_cons_of_mem _ List.mem_cons_self)
  obtain ⟨bx, b2⟩ := Bool.and_eq_true_iff.mp b1
  have ex_x_NoBlock := oxB_ok bx
  obtain ⟨bx, b3⟩ := Bool.and_eq_true_iff.mp b2
  have ex_xf_NoBlock := xfB_ok bx
  obtain ⟨bx, b4⟩ := Bool.and_eq_true_iff.mp b3
  have ex_i_NoBlock := of_decide_eq_true bx
  obtain ⟨bx, b5⟩ := Bool.and_eq_true_iff.mp b4
  have ex_ti_NoBlock := of_decide_eq_true bx
  obtain ⟨bx, b6⟩ := Bool.and_eq_true_iff.mp b5
  have ex_n_NoBlock := of_decide_eq_true bx
  have ex_e_NoBlock := of_decide_eq_true b6
  obtain ⟨sx, s2⟩ := Bool.and_eq_true_iff.mp s1
  have ex_x_NoSign := oxB_ok sx
  obtain ⟨sx, s3⟩ := Bool.and_eq_true_iff.mp s2
  have ex_xf_NoSign := xfB_ok sx
  obtain ⟨sx, s4⟩ := Bool.and_eq_true_iff.mp s3
  have ex_i_NoSign := of_decide_eq_true sx
  obtain ⟨sx, s5⟩ := Bool.and_eq_true_iff.mp s4
  have ex_ti_NoSign := of_decide_eq_true sx
  obtain ⟨sx, s6⟩ := Bool.and_eq_true_iff.mp s5
  have ex_n_NoSign := of_decide_eq_true sx
  have ex_e_NoSign := of_decide_eq_true s6
  refine ⟨fun base hb => {
    all := He.free_ok X G (c.t.d.fact 0 (f := .free "all") rfl),
    any := He.free_ok X G (c.t.d.fact 1 (f := .free "any") rfl),
    bool := He.free_ok X G (c.t.d.fact 2 (f := .free "bool") rfl),
    int := He.free_ok X G (c.t.d.fact 3 (f := .free "int") rfl),
    isinstance := He.free_ok X G (c.t.d.fact 4 (f := .free "isinstance") rfl),
    len := He.free_ok X G (c.t.d.fact 5 (f := .free "len") rfl),
    list := He.free_ok X G (c.t.d.fact 6 (f := .free "list") rfl),
    max := He.free_ok X G (c.t.d.fact 7 (f := .free "max") rfl),
    min := He.free_ok X G (c.t.d.fact 8 (f := .free "min") rfl),
    range := He.free_ok X G (c.t.d.fact 9 (f := .free "range") rfl),
    sorted := He.free_ok X G (c.t.d.fact 10 (f := .free "sorted") rfl),
    str := He.free_ok X G (c.t.d.fact 11 (f := .free "str") rfl),
    sum := He.free_ok X G (c.t.d.fact 12 (f := .free "sum") rfl),
    tuple := He.free_ok X G (c.t.d.fact 13 (f := .free "tuple") rfl),
    zip := He.free_ok X G (c.t.d.fact 14 (f := .free "zip") rfl),
    f_is_integer := He.fAd K ("is_integer", none),
    d_is_integer := d_is_integer,
    F_is_integer := F_is_integer,
    g_is_integer := He.glo_ok X G (c.t.d.fact 15 (f := .glo "is_integer") rfl),
    f_is_number := He.fAd K ("is_number", none),
    d_is_number := d_is_number,
    F_is_number := F_is_number,
    g_is_number := He.glo_ok X G (c.t.d.fact 16 (f := .glo "is_number") rfl),
    f_is_clock := He.fAd K ("is_clock", none),
    d_is_clock := d_is_clock,
    F_is_clock := F_is_clock,
    g_is_clock := He.glo_ok X G (c.t.d.fact 17 (f := .glo "is_clock") rfl),
    f_is_within := He.fAd K ("is_within", none),
    d_is_within := d_is_within,
    F_is_within := F_is_within,
    g_is_within := He.glo_ok X G (c.t.d.fact 18 (f := .glo "is_within") rfl),
    f_counts_id := He.fAd K ("counts_id", none),
    d_counts_id := d_counts_id,
    F_counts_id := F_counts_id,
    g_counts_id := He.glo_ok X G (c.t.d.fact 19 (f := .glo "counts_id") rfl),
    f_act_of := He.fAd K ("act_of", none),
    d_act_of := d_act_of,
    F_act_of := F_act_of,
    g_act_of := He.glo_ok X G (c.t.d.fact 20 (f := .glo "act_of") rfl),
    f_named_by := He.fAd K ("named_by", none),
    d_named_by := d_named_by,
    F_named_by := F_named_by,
    g_named_by := He.glo_ok X G (c.t.d.fact 21 (f := .glo "named_by") rfl),
    f_is_block := He.fAd K ("is_block", none),
    d_is_block := d_is_block,
    F_is_block := F_is_block,
    g_is_block := He.glo_ok X G (c.t.d.fact 22 (f := .glo "is_block") rfl),
    f_blocks_in := He.fAd K ("blocks_in", none),
    d_blocks_in := d_blocks_in,
    F_blocks_in := F_blocks_in,
    g_blocks_in := He.glo_ok X G (c.t.d.fact 23 (f := .glo "blocks_in") rfl),
    f_SignTrees___init__ := He.fAd K ("SignTrees", some "__init__"),
    d_SignTrees___init__ := d_SignTrees___init__,
    F_SignTrees___init__ := F_SignTrees___init__,
    f_SignTrees_hang_text := He.fAd K ("SignTrees", some "hang_text"),
    d_SignTrees_hang_text := d_SignTrees_hang_text,
    F_SignTrees_hang_text := F_SignTrees_hang_text,
    f_SignTrees_hang := He.fAd K ("SignTrees", some "hang"),
    d_SignTrees_hang := d_SignTrees_hang,
    F_SignTrees_hang := F_SignTrees_hang,
    f_SignTrees_place_between := He.fAd K ("SignTrees", some "place_between"),
    d_SignTrees_place_between := d_SignTrees_place_between,
    F_SignTrees_place_between := F_SignTrees_place_between,
    f_SignTrees_is_above := He.fAd K ("SignTrees", some "is_above"),
    d_SignTrees_is_above := d_SignTrees_is_above,
    F_SignTrees_is_above := F_SignTrees_is_above,
    f_SignTrees_row_under := He.fAd K ("SignTrees", some "row_under"),
    d_SignTrees_row_under := d_SignTrees_row_under,
    F_SignTrees_row_under := F_SignTrees_row_under,
    f_trees_of := He.fAd K ("trees_of", none),
    d_trees_of := d_trees_of,
    F_trees_of := F_trees_of,
    g_trees_of := He.glo_ok X G (c.t.d.fact 24 (f := .glo "trees_of") rfl),
    f_row := He.fAd K ("row", none),
    d_row := d_row,
    F_row := F_row,
    g_row := He.glo_ok X G (c.t.d.fact 25 (f := .glo "row") rfl),
    f_passed := He.fAd K ("passed", none),
    d_passed := d_passed,
    F_passed := F_passed,
    g_passed := He.glo_ok X G (c.t.d.fact 26 (f := .glo "passed") rfl),
    f_open_row := He.fAd K ("open_row_core_signs", none),
    d_open_row := d_open_row,
    F_open_row := F_open_row,
    g_open_row := He.glo_ok X G (c.t.d.fact 27 (f := .glo "open_row_core_signs") rfl),
    f_is_hand := He.fAd K ("is_hand", none),
    d_is_hand := d_is_hand,
    F_is_hand := F_is_hand,
    g_is_hand := He.glo_ok X G (c.t.d.fact 28 (f := .glo "is_hand") rfl),
    f_is_string_of := He.fAd K ("is_string_of", none),
    d_is_string_of := d_is_string_of,
    F_is_string_of := F_is_string_of,
    g_is_string_of := He.glo_ok X G (c.t.d.fact 29 (f := .glo "is_string_of") rfl),
    f_is_word := He.fAd K ("is_word", none),
    d_is_word := d_is_word,
    F_is_word := F_is_word,
    g_is_word := He.glo_ok X G (c.t.d.fact 30 (f := .glo "is_word") rfl),
    f_is_text := He.fAd K ("is_text", none),
    d_is_text := d_is_text,
    F_is_text := F_is_text,
    g_is_text := He.glo_ok X G (c.t.d.fact 31 (f := .glo "is_text") rfl),
    f_is_deed_id := He.fAd K ("is_deed_id", none),
    d_is_deed_id := d_is_deed_id,
    F_is_deed_id := F_is_deed_id,
    g_is_deed_id := He.glo_ok X G (c.t.d.fact 32 (f := .glo "is_deed_id") rfl),
    f_is_block_id := He.fAd K ("is_block_id", none),
    d_is_block_id := d_is_block_id,
    F_is_block_id := F_is_block_id,
    g_is_block_id := He.glo_ok X G (c.t.d.fact 33 (f := .glo "is_block_id") rfl),
    f_is_sign_id := He.fAd K ("is_sign_id", none),
    d_is_sign_id := d_is_sign_id,
    F_is_sign_id := F_is_sign_id,
    g_is_sign_id := He.glo_ok X G (c.t.d.fact 34 (f := .glo "is_sign_id") rfl),
    f_is_part := He.fAd K ("is_part", none),
    d_is_part := d_is_part,
    F_is_part := F_is_part,
    g_is_part := He.glo_ok X G (c.t.d.fact 35 (f := .glo "is_part") rfl),
    f_is_act := He.fAd K ("is_act", none),
    d_is_act := d_is_act,
    F_is_act := F_is_act,
    g_is_act := He.glo_ok X G (c.t.d.fact 36 (f := .glo "is_act") rfl),
    f_is_deed := He.fAd K ("is_deed", none),
    d_is_deed := d_is_deed,
    F_is_deed := F_is_deed,
    g_is_deed := He.glo_ok X G (c.t.d.fact 37 (f := .glo "is_deed") rfl),
    f_id_of := He.fAd K ("id_of", none),
    d_id_of := d_id_of,
    F_id_of := F_id_of,
    g_id_of := He.glo_ok X G (c.t.d.fact 38 (f := .glo "id_of") rfl),
    f_Deeds___init__ := He.fAd K ("Deeds", some "__init__"),
    d_Deeds___init__ := d_Deeds___init__,
    F_Deeds___init__ := F_Deeds___init__,
    f_Deeds_greatest_time := He.fAd K ("Deeds", some "greatest_time"),
    d_Deeds_greatest_time := d_Deeds_greatest_time,
    F_Deeds_greatest_time := F_Deeds_greatest_time,
    f_Deeds_has := He.fAd K ("Deeds", some "has"),
    d_Deeds_has := d_Deeds_has,
    F_Deeds_has := F_Deeds_has,
    f_Deeds_within := He.fAd K ("Deeds", some "within"),
    d_Deeds_within := d_Deeds_within,
    F_Deeds_within := F_Deeds_within,
    f_Deeds_in_turn := He.fAd K ("Deeds", some "in_turn"),
    d_Deeds_in_turn := d_Deeds_in_turn,
    F_Deeds_in_turn := F_Deeds_in_turn,
    f_Deeds_clock := He.fAd K ("Deeds", some "clock"),
    d_Deeds_clock := d_Deeds_clock,
    F_Deeds_clock := F_Deeds_clock,
    f_Deeds_is_cut := He.fAd K ("Deeds", some "is_cut"),
    d_Deeds_is_cut := d_Deeds_is_cut,
    F_Deeds_is_cut := F_Deeds_is_cut,
    f_Deeds_is_block := He.fAd K ("Deeds", some "is_block"),
    d_Deeds_is_block := d_Deeds_is_block,
    F_Deeds_is_block := F_Deeds_is_block,
    f_are_closed := He.fAd K ("are_closed", none),
    d_are_closed := d_are_closed,
    F_are_closed := F_are_closed,
    g_are_closed := He.glo_ok X G (c.t.d.fact 39 (f := .glo "are_closed") rfl),
    f_is_last_a_bar := He.fAd K ("is_last_a_bar", none),
    d_is_last_a_bar := d_is_last_a_bar,
    F_is_last_a_bar := F_is_last_a_bar,
    g_is_last_a_bar := He.glo_ok X G (c.t.d.fact 40 (f := .glo "is_last_a_bar") rfl),
    f_are_neighbours := He.fAd K ("are_neighbours", none),
    d_are_neighbours := d_are_neighbours,
    F_are_neighbours := F_are_neighbours,
    g_are_neighbours := He.glo_ok X G (c.t.d.fact 41 (f := .glo "are_neighbours") rfl),
    f_fits_write := He.fAd K ("fits_write", none),
    d_fits_write := d_fits_write,
    F_fits_write := F_fits_write,
    g_fits_write := He.glo_ok X G (c.t.d.fact 42 (f := .glo "fits_write") rfl),
    f_fits_blocks := He.fAd K ("fits_blocks", none),
    d_fits_blocks := d_fits_blocks,
    F_fits_blocks := F_fits_blocks,
    g_fits_blocks := He.glo_ok X G (c.t.d.fact 43 (f := .glo "fits_blocks") rfl),
    f_fits_past := He.fAd K ("fits_past", none),
    d_fits_past := d_fits_past,
    F_fits_past := F_fits_past,
    g_fits_past := He.glo_ok X G (c.t.d.fact 44 (f := .glo "fits_past") rfl),
    f_made := He.fAd K ("made", none),
    d_made := d_made,
    F_made := F_made,
    g_made := He.glo_ok X G (c.t.d.fact 45 (f := .glo "made") rfl),
    f_need_history := He.fAd K ("need_history", none),
    d_need_history := d_need_history,
    F_need_history := F_need_history,
    g_need_history := He.glo_ok X G (c.t.d.fact 46 (f := .glo "need_history") rfl),
    f_part := He.fAd K ("part", none),
    d_part := d_part,
    F_part := F_part,
    g_part := He.glo_ok X G (c.t.d.fact 47 (f := .glo "part") rfl),
    f_block_looked_at := He.fAd K ("block_looked_at", none),
    d_block_looked_at := d_block_looked_at,
    F_block_looked_at := F_block_looked_at,
    g_block_looked_at := He.glo_ok X G (c.t.d.fact 48 (f := .glo "block_looked_at") rfl),
    f_row_of := He.fAd K ("row_of", none),
    d_row_of := d_row_of,
    F_row_of := F_row_of,
    g_row_of := He.glo_ok X G (c.t.d.fact 49 (f := .glo "row_of") rfl),
    f_parent_of := He.fAd K ("parent_of", none),
    d_parent_of := d_parent_of,
    F_parent_of := F_parent_of,
    g_parent_of := He.glo_ok X G (c.t.d.fact 50 (f := .glo "parent_of") rfl),
    f_open_row_signs := He.fAd K ("open_row_signs", none),
    d_open_row_signs := d_open_row_signs,
    F_open_row_signs := F_open_row_signs,
    g_open_row_signs := He.glo_ok X G (c.t.d.fact 51 (f := .glo "open_row_signs") rfl),
    f__law_so := He.fAd K ("_law_so", none),
    d__law_so := d__law_so,
    F__law_so := F__law_so,
    g__law_so := He.glo_ok X G (c.t.d.fact 52 (f := .glo "_law_so") rfl),
    f__law_numbers := He.fAd K ("_law_numbers", none),
    d__law_numbers := d__law_numbers,
    F__law_numbers := F__law_numbers,
    g__law_numbers := He.glo_ok X G (c.t.d.fact 53 (f := .glo "_law_numbers") rfl),
    f__law_draw := He.fAd K ("_law_draw", none),
    d__law_draw := d__law_draw,
    F__law_draw := F__law_draw,
    g__law_draw := He.glo_ok X G (c.t.d.fact 54 (f := .glo "_law_draw") rfl),
    f__law_id := He.fAd K ("_law_id", none),
    d__law_id := d__law_id,
    F__law_id := F__law_id,
    g__law_id := He.glo_ok X G (c.t.d.fact 55 (f := .glo "_law_id") rfl),
    f__law_known := He.fAd K ("_law_known", none),
    d__law_known := d__law_known,
    F__law_known := F__law_known,
    g__law_known := He.glo_ok X G (c.t.d.fact 56 (f := .glo "_law_known") rfl),
    f__law_both := He.fAd K ("_law_both", none),
    d__law_both := d__law_both,
    F__law_both := F__law_both,
    g__law_both := He.glo_ok X G (c.t.d.fact 57 (f := .glo "_law_both") rfl),
    f__law_mixed := He.fAd K ("_law_mixed", none),
    d__law_mixed := d__law_mixed,
    F__law_mixed := F__law_mixed,
    g__law_mixed := He.glo_ok X G (c.t.d.fact 58 (f := .glo "_law_mixed") rfl),
    f__law_above := He.fAd K ("_law_above", none),
    d__law_above := d__law_above,
    F__law_above := F__law_above,
    g__law_above := He.glo_ok X G (c.t.d.fact 59 (f := .glo "_law_above") rfl),
    f__law_tree := He.fAd K ("_law_tree", none),
    d__law_tree := d__law_tree,
    F__law_tree := F__law_tree,
    g__law_tree := He.glo_ok X G (c.t.d.fact 60 (f := .glo "_law_tree") rfl),
    f__law_row := He.fAd K ("_law_row", none),
    d__law_row := d__law_row,
    F__law_row := F__law_row,
    g__law_row := He.glo_ok X G (c.t.d.fact 61 (f := .glo "_law_row") rfl),
    f__law_written := He.fAd K ("_law_written", none),
    d__law_written := d__law_written,
    F__law_written := F__law_written,
    g__law_written := He.glo_ok X G (c.t.d.fact 62 (f := .glo "_law_written") rfl),
    f__law_places := He.fAd K ("_law_places", none),
    d__law_places := d__law_places,
    F__law_places := F__law_places,
    g__law_places := He.glo_ok X G (c.t.d.fact 63 (f := .glo "_law_places") rfl),
    f__law_agrees := He.fAd K ("_law_agrees", none),
    d__law_agrees := d__law_agrees,
    F__law_agrees := F__law_agrees,
    g__law_agrees := He.glo_ok X G (c.t.d.fact 64 (f := .glo "_law_agrees") rfl),
    f__law_refused := He.fAd K ("_law_refused", none),
    d__law_refused := d__law_refused,
    F__law_refused := F__law_refused,
    g__law_refused := He.glo_ok X G (c.t.d.fact 65 (f := .glo "_law_refused") rfl),
    f_law := He.fAd K ("law", none),
    d_law := d_law,
    F_law := F_law,
    g_law := He.glo_ok X G (c.t.d.fact 66 (f := .glo "law") rfl),
    C_SignTrees := He.ga K "SignTrees",
    g_SignTrees := He.glo_ok X G (c.t.d.fact 67 (f := .glo "SignTrees") rfl),
    c_SignTrees := He.cls_ok (c.t.d.fact 68 (f := .cls "SignTrees") rfl),
    mk_SignTrees := He.mkr_ok (c.t.d.fact 69 (f := .mkr "SignTrees") rfl),
    m_SignTrees_hang_text := He.meth_ok (c.t.d.fact 70 (f := .meth "SignTrees" "hang_text") rfl),
    m_SignTrees_hang := He.meth_ok (c.t.d.fact 71 (f := .meth "SignTrees" "hang") rfl),
    m_SignTrees_place_between := He.meth_ok (c.t.d.fact 72 (f := .meth "SignTrees" "place_between") rfl),
    m_SignTrees_is_above := He.meth_ok (c.t.d.fact 73 (f := .meth "SignTrees" "is_above") rfl),
    m_SignTrees_row_under := He.meth_ok (c.t.d.fact 74 (f := .meth "SignTrees" "row_under") rfl),
    C_Deeds := He.ga K "Deeds",
    g_Deeds := He.glo_ok X G (c.t.d.fact 75 (f := .glo "Deeds") rfl),
    c_Deeds := He.cls_ok (c.t.d.fact 76 (f := .cls "Deeds") rfl),
    mk_Deeds := He.mkr_ok (c.t.d.fact 77 (f := .mkr "Deeds") rfl),
    m_Deeds_greatest_time := He.meth_ok (c.t.d.fact 78 (f := .meth "Deeds" "greatest_time") rfl),
    m_Deeds_has := He.meth_ok (c.t.d.fact 79 (f := .meth "Deeds" "has") rfl),
    m_Deeds_within := He.meth_ok (c.t.d.fact 80 (f := .meth "Deeds" "within") rfl),
    m_Deeds_in_turn := He.meth_ok (c.t.d.fact 81 (f := .meth "Deeds" "in_turn") rfl),
    m_Deeds_clock := He.meth_ok (c.t.d.fact 82 (f := .meth "Deeds" "clock") rfl),
    m_Deeds_is_cut := He.meth_ok (c.t.d.fact 83 (f := .meth "Deeds" "is_cut") rfl),
    m_Deeds_is_block := He.meth_ok (c.t.d.fact 84 (f := .meth "Deeds" "is_block") rfl),
    n_SignTrees_parent := He.noat_ok (c.t.d.fact 85 (f := .noat "SignTrees" "parent") rfl),
    n_SignTrees_block_of := He.noat_ok (c.t.d.fact 86 (f := .noat "SignTrees" "block_of") rfl),
    n_SignTrees_below := He.noat_ok (c.t.d.fact 87 (f := .noat "SignTrees" "below") rfl),
    n_Deeds_by_id := He.noat_ok (c.t.d.fact 88 (f := .noat "Deeds" "by_id") rfl),
    n_Deeds_time := He.noat_ok (c.t.d.fact 89 (f := .noat "Deeds" "time") rfl),
    n_Deeds_kept := He.noat_ok (c.t.d.fact 90 (f := .noat "Deeds" "kept") rfl),
    n_Deeds_parts := He.noat_ok (c.t.d.fact 91 (f := .noat "Deeds" "parts") rfl),
    n_Deeds_turn := He.noat_ok (c.t.d.fact 92 (f := .noat "Deeds" "turn") rfl),
    a_HANDS_clocks := He.ga K "HANDS_clocks",
    g_HANDS_clocks := He.glo_ok X G (c.t.d.fact 93 (f := .glo "HANDS_clocks") rfl),
    q_HANDS_clocks := fun H => He.tupB_ok ex_q_HANDS_clocks H,
    a_NOUGHT := He.ga K "NOUGHT",
    g_NOUGHT := He.glo_ok X G (c.t.d.fact 94 (f := .glo "NOUGHT") rfl),
    q_NOUGHT := fun H => He.tupB_ok ex_q_NOUGHT H,
    a_ROOT_core_signs := He.ga K "ROOT_core_signs",
    g_ROOT_core_signs := He.glo_ok X G (c.t.d.fact 95 (f := .glo "ROOT_core_signs") rfl),
    q_ROOT_core_signs := fun H => He.tupB_ok ex_q_ROOT_core_signs H,
    a_ROOT_deeds := He.ga K "ROOT_deeds",
    g_ROOT_deeds := He.glo_ok X G (c.t.d.fact 96 (f := .glo "ROOT_deeds") rfl),
    q_ROOT_deeds := fun H => He.tupB_ok ex_q_ROOT_deeds H,
    k_LETTERS := k_LETTERS,
    g_LETTERS := g_LETTERS,
    k_TEXT_SIGNS := k_TEXT_SIGNS,
    g_TEXT_SIGNS := g_TEXT_SIGNS,
    k_MOST_SIGNS := k_MOST_SIGNS,
    g_MOST_SIGNS := g_MOST_SIGNS,
    c_I := (He.cT K dI).1,
    p_I := (He.cT K dI).2,
    code_I := code_I,
    tab_I := hb,
    hT := rfl,
    a_PARTS := He.ga K "PARTS",
    g_PARTS := He.glo_ok X G (c.t.d.fact 97 (f := .glo "PARTS") rfl),
    D_PARTS := c.t.tab 0 (t := (fun K => He.ga K "PARTS", partKeys)) rfl,
    v_write := v_write,
    v_block := v_block,
    f_NoBlock___init__ := He.fAd K ("NoBlock", some "__init__"),
    d_NoBlock___init__ := d_NoBlock___init__,
    F_NoBlock___init__ := F_NoBlock___init__,
    C_NoBlock := He.ga K "NoBlock",
    g_NoBlock := He.glo_ok X G (c.t.d.fact 98 (f := .glo "NoBlock") rfl),
    x_NoBlock := ex_x_NoBlock,
    xf_NoBlock := ex_xf_NoBlock,
    i_NoBlock := ex_i_NoBlock,
    ti_NoBlock := ex_ti_NoBlock,
    n_NoBlock := ex_n_NoBlock,
    e_NoBlock := ex_e_NoBlock,
    f_NoSign___init__ := He.fAd K ("NoSign", some "__init__"),
    d_NoSign___init__ := d_NoSign___init__,
    F_NoSign___init__ := F_NoSign___init__,
    C_NoSign := He.ga K "NoSign",
    g_NoSign := He.glo_ok X G (c.t.d.fact 99 (f := .glo "NoSign") rfl),
    x_NoSign := ex_x_NoSign,
    xf_NoSign := ex_xf_NoSign,
    i_NoSign := ex_i_NoSign,
    ti_NoSign := ex_ti_NoSign,
    n_NoSign := ex_n_NoSign,
    e_NoSign := ex_e_NoSign
  }, d_law, fun _ _ => rfl, fun _ _ => rfl, F_law⟩
end K20
namespace K20
open K20H
open PySem PySem.Spec PyProof.Rows L2
theorem law_at {w : World} {mg : Str → Option Value} {f : Addr} {h : Heap} (Y : hk.says w h) (G : h.Ns mainGlobals mg) (hf : mg ("law" : Str) = some (.ref f)) :
    ∃ K : PySem.W.Frag, K.In h ∧ LamX.LawAtS PySem.Challenge.rw_quillmoot_k20_whole_rows_by_own_trees w K L2.CX0 16 63 "_law_script" mg f h := by
  obtain ⟨K, KX, c⟩ := Y
  obtain ⟨E, fd, hd, hfl, F⟩ := tp_all KX G c
  have e := hf.symm.trans (He.glo_ok KX G (c.t.d.fact 66 (f := .glo "law") rfl))
  cases e
  refine ⟨K, KX, fd, [He.cT K dI], sp_law K (LT K), fun p hp => ?_, fun p hp => ?_, fun p hp => ?_, fun s u => ?_, fun H a ns _ _ hT hS => ⟨a, ns, rfl, hS, fun z hz => ?_, fun _ => rfl⟩, fun base hK hG hB => ?_⟩
  · obtain rfl := List.mem_singleton.mp hp
    exact c.empty dI List.mem_cons_self
  · obtain rfl := List.mem_singleton.mp hp
    exact c.out dI List.mem_cons_self
  · obtain rfl := List.mem_singleton.mp hp
    exact PySem.W.codeHd_of_K KX (c.hd dI List.mem_cons_self)
  · exact FunD.bindsA (ps := ["_law_script"]) F (fun _ _ _ _ _ _ us hl => match us, hl with | [_], _ => rfl) s [u] rfl
  · obtain rfl := List.mem_singleton.mp hz
    exact LamX.TabS.nil (hT _ List.mem_cons_self)
  · have hb := hB _ List.mem_cons_self
    have z := ok_law (P := PySem.Challenge.rw_quillmoot_k20_whole_rows_by_own_trees.prog) (w := w) (K := K) (T := LT K) (E base hb)
    rw [hd base hb, hfl base hb] at z
    exact z
end K20
open PySem PySem.W PySem.Calls PyProof.Rows
theorem PySem.Challenge.cw_quillmoot_k20_whole_rows_by_own_trees_holds : PySem.Challenge.rw_quillmoot_k20_whole_rows_by_own_trees.Holds := by
  w_on; o_law
  refine HandSHeadRun.head_any (r := OpenLaw.row PySem.Challenge.rw_quillmoot_k20_whole_rows_by_own_trees) (q := K20H.qv) (H := K20H.hk) (ob := K20H.ob) (M := 20000) (loose := K20H.names) (d := HandSHeadRun.topDef (OpenLaw.row PySem.Challenge.rw_quillmoot_k20_whole_rows_by_own_trees).prog 107) (kwd := [])
    K20H.ob_eq (by kernel_rfl) (fun s => by kernel_rfl) K20H.headRun (by kernel_rfl) (by kernel_rfl) (by kernel_rfl) (by rfl) (by first | assumption | decide +kernel) (by decide +kernel) ⟨rfl, rfl, rfl, rfl, rfl, by decide +kernel⟩ ?hw ?hc
  case hw => w_witness2
  case hc =>
    refine LamX.walk_ofTsE (l := PySem.Challenge.rw_quillmoot_k20_whole_rows_by_own_trees) (n := 63) (k := 16) (x := "_law_script") (CX := fun _ => L2.CX0) rfl (by decide) (by kernel_rfl) ⟨rfl, by decide, by decide⟩ ?F (fun _ _ _ _ _ z => z)
    intro w mg f h Y G h0
    have e : (HandSHeadRun.topDef (OpenLaw.row PySem.Challenge.rw_quillmoot_k20_whole_rows_by_own_trees).prog 107).name = ("law" : PySem.Str) := by kernel_rfl
    rw [e] at h0
    exact K20.law_at Y G h0
