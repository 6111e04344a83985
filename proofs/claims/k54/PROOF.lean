import PyProof.Rows.All
import Wide.All
import OpenK.AllK
import Wide.FinOn
import HandS.ForMost
import HandS.More
import HandS.Defaults
import HandS.Exc
import HandS.HeadHook3
import PySem.Challenge.RW_sayso_k54_whole_refusals
import HandS.Head0
import HandS.Head1
import HandS.Head2
import HandS.HeadEnd
import HandS.HeadHook4
import HandS.HeadWalk
import HandS.TupMul
import KE.KDictKeyed
import HandS.TupLen
import KE.KDictDisplayH
import KE.KDictCopyH
import KE.SortData
import KE.KDictSum
import HandS.TupSets
import HandS.Strs
import HandS.Walk
import KE.GoesMore
import HandS.DictComp
import HandS.TupAny
import KE.KDictList
import HandS.IsInst
import HandS.SetKeys
import HandS.Style
import HandS.Deep
import HandS.ForExc
import HandS.Zip
import HandS.Conv
import HandS.TryMany
import HandS.ExcOwn
import HandS.WordsExc
set_option Elab.async false
set_option linter.all false
set_option maxRecDepth 100000
set_option maxHeartbeats 4000000
set_option pp.maxSteps 800
namespace K54
open PySem PySem.Spec PyProof.Rows L2
def top (i : Nat) : Stmt := PySem.Challenge.pw_sayso_k54_whole_refusals.main.body.getD i (.Pass ⟨0, 0, 0, 0⟩)
abbrev s_is_integer : Stmt := top 17
abbrev s_is_below : Stmt := top 18
abbrev s_power : Stmt := top 19
abbrev s_is_name : Stmt := top 20
abbrev s_is_row : Stmt := top 21
abbrev s_checked : Stmt := top 22
abbrev s_Structure_init : Stmt := inClass (top 23) 0
abbrev s_Structure_symbols : Stmt := inClass (top 23) 6
abbrev s_are_heads : Stmt := top 33
abbrev s_is_condition : Stmt := top 34
abbrev s_is_action : Stmt := top 35
abbrev s_check_rule : Stmt := top 36
abbrev s_looked_at : Stmt := top 37
abbrev s_machine_symbols : Stmt := top 38
abbrev s_by_state : Stmt := top 39
abbrev s_check_symbols : Stmt := top 40
abbrev s_first_configuration : Stmt := top 41
abbrev s_Place_init : Stmt := inClass (top 42) 0
abbrev s_Place_load : Stmt := inClass (top 42) 1
abbrev s_Place_true : Stmt := inClass (top 42) 3
abbrev s_Place_moved : Stmt := inClass (top 42) 4
abbrev s_Place_applying : Stmt := inClass (top 42) 5
abbrev s_is_configuration : Stmt := top 43
abbrev s_check_headed : Stmt := top 46
abbrev s_check_places : Stmt := top 47
abbrev s_followed : Stmt := top 48
abbrev s_reached : Stmt := top 49
abbrev s_levels_of : Stmt := top 50
abbrev s_refusal : Stmt := top 51
abbrev s_are_levels : Stmt := top 52
abbrev s_is_refusal : Stmt := top 53
abbrev s_L_mixed : Stmt := top 55
abbrev s_L_numbers : Stmt := top 56
abbrev s_L_draw : Stmt := top 57
abbrev s_L_equal : Stmt := top 58
abbrev s_L_all_equal : Stmt := top 59
abbrev s_L_relation : Stmt := top 60
abbrev s_L_all_rows : Stmt := top 61
abbrev s_L_relations : Stmt := top 62
abbrev s_L_made : Stmt := top 63
abbrev s_L_condition : Stmt := top 64
abbrev s_L_action : Stmt := top 65
abbrev s_L_turned : Stmt := top 66
abbrev s_L_rule : Stmt := top 67
abbrev s_L_rules : Stmt := top 68
abbrev s_L_machine : Stmt := top 69
abbrev s_L_test : Stmt := top 70
abbrev s_L_act : Stmt := top 71
abbrev s_L_by_state : Stmt := top 72
abbrev s_L_all_hold : Stmt := top 73
abbrev s_L_after : Stmt := top 74
abbrev s_L_next : Stmt := top 75
abbrev s_L_first : Stmt := top 76
abbrev s_L_levels : Stmt := top 77
abbrev s_L_reaches : Stmt := top 78
abbrev s_L_spoilt : Stmt := top 79
abbrev s_L_error : Stmt := top 80
abbrev s_law : Stmt := top 81
abbrev XcOk (K : PySem.W.Frag) (C : Addr) : Prop := PySem.W.excIn K C He.veBase "ValueError.__new__" = true ∧ PySem.W.keepIn K (.ref C) = true ∧ PySem.W.subIn K (.ref C) (.type "BaseException") = some true ∧ PySem.W.typeIn K (.ref C) = some (.type "type")
abbrev FnP (K : PySem.W.Frag) (p : Str × Option Str) (x q : Str) (st : Stmt) : Prop := ∃ fd, FunD K x q (defArgs st) (defBody st) (defScope st) [] [] (He.fAd K p) fd
structure Txt (w : World) (K : PySem.W.Frag) (mg : Str → Option Value) : Prop where
  g_is_integer : mg "is_integer" = some (.ref (He.ga K "is_integer"))
  g_is_below : mg "is_below" = some (.ref (He.ga K "is_below"))
  g_power : mg "power" = some (.ref (He.ga K "power"))
  g_is_name : mg "is_name" = some (.ref (He.ga K "is_name"))
  g_is_row : mg "is_row" = some (.ref (He.ga K "is_row"))
  g_checked : mg "checked" = some (.ref (He.ga K "checked"))
  g_are_heads : mg "are_heads" = some (.ref (He.ga K "are_heads"))
  g_is_condition : mg "is_condition" = some (.ref (He.ga K "is_condition"))
  g_is_action : mg "is_action" = some (.ref (He.ga K "is_action"))
  g_check_rule : mg "check_rule" = some (.ref (He.ga K "check_rule"))
  g_looked_at : mg "looked_at" = some (.ref (He.ga K "looked_at"))
  g_machine_symbols : mg "machine_symbols" = some (.ref (He.ga K "machine_symbols"))
  g_by_state : mg "by_state" = some (.ref (He.ga K "by_state"))
  g_check_symbols : mg "check_symbols" = some (.ref (He.ga K "check_symbols"))
  g_first_configuration : mg "first_configuration" = some (.ref (He.ga K "first_configuration"))
  g_is_configuration : mg "is_configuration" = some (.ref (He.ga K "is_configuration"))
  g_check_headed : mg "check_headed" = some (.ref (He.ga K "check_headed"))
  g_check_places : mg "check_places" = some (.ref (He.ga K "check_places"))
  g_followed : mg "followed" = some (.ref (He.ga K "followed"))
  g_reached : mg "reached" = some (.ref (He.ga K "reached"))
  g_levels_of : mg "levels_of" = some (.ref (He.ga K "levels_of"))
  g_refusal : mg "refusal" = some (.ref (He.ga K "refusal"))
  g_are_levels : mg "are_levels" = some (.ref (He.ga K "are_levels"))
  g_is_refusal : mg "is_refusal" = some (.ref (He.ga K "is_refusal"))
  g_L_mixed : mg "_law_mixed" = some (.ref (He.ga K "_law_mixed"))
  g_L_numbers : mg "_law_numbers" = some (.ref (He.ga K "_law_numbers"))
  g_L_draw : mg "_law_draw" = some (.ref (He.ga K "_law_draw"))
  g_L_equal : mg "_law_equal" = some (.ref (He.ga K "_law_equal"))
  g_L_all_equal : mg "_law_all_equal" = some (.ref (He.ga K "_law_all_equal"))
  g_L_relation : mg "_law_relation" = some (.ref (He.ga K "_law_relation"))
  g_L_all_rows : mg "_law_all_rows" = some (.ref (He.ga K "_law_all_rows"))
  g_L_relations : mg "_law_relations" = some (.ref (He.ga K "_law_relations"))
  g_L_made : mg "_law_made" = some (.ref (He.ga K "_law_made"))
  g_L_condition : mg "_law_condition" = some (.ref (He.ga K "_law_condition"))
  g_L_action : mg "_law_action" = some (.ref (He.ga K "_law_action"))
  g_L_turned : mg "_law_turned" = some (.ref (He.ga K "_law_turned"))
  g_L_rule : mg "_law_rule" = some (.ref (He.ga K "_law_rule"))
  g_L_rules : mg "_law_rules" = some (.ref (He.ga K "_law_rules"))
  g_L_machine : mg "_law_machine" = some (.ref (He.ga K "_law_machine"))
  g_L_test : mg "_law_test" = some (.ref (He.ga K "_law_test"))
  g_L_act : mg "_law_act" = some (.ref (He.ga K "_law_act"))
  g_L_by_state : mg "_law_by_state" = some (.ref (He.ga K "_law_by_state"))
  g_L_all_hold : mg "_law_all_hold" = some (.ref (He.ga K "_law_all_hold"))
  g_L_after : mg "_law_after" = some (.ref (He.ga K "_law_after"))
  g_L_next : mg "_law_next" = some (.ref (He.ga K "_law_next"))
  g_L_first : mg "_law_first" = some (.ref (He.ga K "_law_first"))
  g_L_levels : mg "_law_levels" = some (.ref (He.ga K "_law_levels"))
  g_L_reaches : mg "_law_reaches" = some (.ref (He.ga K "_law_reaches"))
  g_L_spoilt : mg "_law_spoilt" = some (.ref (He.ga K "_law_spoilt"))
  g_L_error : mg "_law_error" = some (.ref (He.ga K "_law_error"))
  g_law : mg "law" = some (.ref (He.ga K "law"))
  g_Structure : mg "Structure" = some (.ref (He.ga K "Structure"))
  g_Place : mg "Place" = some (.ref (He.ga K "Place"))
  g_BadArgument : mg "BadArgument" = some (.ref (He.ga K "BadArgument"))
  g_NotFitting : mg "NotFitting" = some (.ref (He.ga K "NotFitting"))
  g_TooLarge : mg "TooLarge" = some (.ref (He.ga K "TooLarge"))
  g_WORDS_structures : mg "WORDS_structures" = some (.ref (He.ga K "WORDS_structures"))
  g_CONDITIONS : mg "CONDITIONS" = some (.ref (He.ga K "CONDITIONS"))
  g_ACTIONS : mg "ACTIONS" = some (.ref (He.ga K "ACTIONS"))
  b_isinstance : mg "isinstance" = none
  b_int : mg "int" = none
  b_bool : mg "bool" = none
  b_str : mg "str" = none
  b_tuple : mg "tuple" = none
  b_list : mg "list" = none
  b_len : mg "len" = none
  b_range : mg "range" = none
  b_sorted : mg "sorted" = none
  b_set : mg "set" = none
  b_enumerate : mg "enumerate" = none
  b_zip : mg "zip" = none
  b_all : mg "all" = none
  i_LONGEST : ∃ t, mg "LONGEST" = some (.int 12 t)
  i_LARGEST : ∃ t, mg "LARGEST" = some (.int 16 t)
  i_RELATIONS : ∃ t, mg "RELATIONS" = some (.int 6 t)
  i_PLACES : ∃ t, mg "PLACES" = some (.int 6 t)
  i_TUPLES : ∃ t, mg "TUPLES" = some (.int 4096 t)
  i_HEADS : ∃ t, mg "HEADS" = some (.int 12 t)
  i_TAPES : ∃ t, mg "TAPES" = some (.int 6 t)
  i_STATES : ∃ t, mg "STATES" = some (.int 4000 t)
  i_RULES : ∃ t, mg "RULES" = some (.int 12000 t)
  i_WORDS_machines : ∃ t, mg "WORDS_machines" = some (.int 12 t)
  i_ACCEPTING : ∃ t, mg "ACCEPTING" = some (.int 1 t)
  i_FEWER : ∃ t, mg "FEWER" = some (.int 2000 t)
  t_LETTERS : ∃ t, mg "LETTERS" = some (.str "abcdefghijklmnopqrstuvwxyz" t)
  t_FIGURES : ∃ t, mg "FIGURES" = some (.str "0123456789" t)
  c_Structure : Cls K (He.ga K "Structure")
  mk_Structure : Mk K (He.ga K "Structure") (He.ma K (He.ga K "Structure") "__init__")
  n_Structure_size : NoAttr K (He.ga K "Structure") "size"
  n_Structure_relations : NoAttr K (He.ga K "Structure") "relations"
  m_Structure_symbols : Meth K (He.ga K "Structure") "symbols" (He.ma K (He.ga K "Structure") "symbols")
  c_Place : Cls K (He.ga K "Place")
  mk_Place : Mk K (He.ga K "Place") (He.ma K (He.ga K "Place") "__init__")
  n_Place_size : NoAttr K (He.ga K "Place") "size"
  n_Place_rules : NoAttr K (He.ga K "Place") "rules"
  n_Place_relations : NoAttr K (He.ga K "Place") "relations"
  n_Place_state : NoAttr K (He.ga K "Place") "state"
  n_Place_heads : NoAttr K (He.ga K "Place") "heads"
  n_Place_marks : NoAttr K (He.ga K "Place") "marks"
  m_Place_load : Meth K (He.ga K "Place") "load" (He.ma K (He.ga K "Place") "load")
  m_Place_true : Meth K (He.ga K "Place") "true" (He.ma K (He.ga K "Place") "true")
  m_Place_moved : Meth K (He.ga K "Place") "moved" (He.ma K (He.ga K "Place") "moved")
  m_Place_applying : Meth K (He.ga K "Place") "applying" (He.ma K (He.ga K "Place") "applying")
  x_BadArgument : XcOk K (He.ga K "BadArgument")
  x_NotFitting : XcOk K (He.ga K "NotFitting")
  x_TooLarge : XcOk K (He.ga K "TooLarge")
  xm_TooLarge_TooLarge : PySem.W.exmOne K (.ref (He.ga K "TooLarge")) (.ref (He.ga K "TooLarge")) = some true
  xm_NotFitting_TooLarge : PySem.W.exmOne K (.ref (He.ga K "NotFitting")) (.ref (He.ga K "TooLarge")) = some false
  xm_NotFitting_NotFitting : PySem.W.exmOne K (.ref (He.ga K "NotFitting")) (.ref (He.ga K "NotFitting")) = some true
  xm_BadArgument_TooLarge : PySem.W.exmOne K (.ref (He.ga K "BadArgument")) (.ref (He.ga K "TooLarge")) = some false
  xm_BadArgument_NotFitting : PySem.W.exmOne K (.ref (He.ga K "BadArgument")) (.ref (He.ga K "NotFitting")) = some false
  xm_BadArgument_BadArgument : PySem.W.exmOne K (.ref (He.ga K "BadArgument")) (.ref (He.ga K "BadArgument")) = some true
  f_is_integer : FnP K ("is_integer", none) "is_integer" "is_integer" s_is_integer
  f_is_below : FnP K ("is_below", none) "is_below" "is_below" s_is_below
  f_power : FnP K ("power", none) "power" "power" s_power
  f_is_name : FnP K ("is_name", none) "is_name" "is_name" s_is_name
  f_is_row : FnP K ("is_row", none) "is_row" "is_row" s_is_row
  f_checked : FnP K ("checked", none) "checked" "checked" s_checked
  f_Structure_init : FnP K ("Structure", some "__init__") "__init__" "Structure.__init__" s_Structure_init
  f_Structure_symbols : FnP K ("Structure", some "symbols") "symbols" "Structure.symbols" s_Structure_symbols
  f_are_heads : FnP K ("are_heads", none) "are_heads" "are_heads" s_are_heads
  f_is_condition : FnP K ("is_condition", none) "is_condition" "is_condition" s_is_condition
  f_is_action : FnP K ("is_action", none) "is_action" "is_action" s_is_action
  f_check_rule : FnP K ("check_rule", none) "check_rule" "check_rule" s_check_rule
  f_looked_at : FnP K ("looked_at", none) "looked_at" "looked_at" s_looked_at
  f_machine_symbols : FnP K ("machine_symbols", none) "machine_symbols" "machine_symbols" s_machine_symbols
  f_by_state : FnP K ("by_state", none) "by_state" "by_state" s_by_state
  f_check_symbols : FnP K ("check_symbols", none) "check_symbols" "check_symbols" s_check_symbols
  f_first_configuration : FnP K ("first_configuration", none) "first_configuration" "first_configuration" s_first_configuration
  f_Place_init : FnP K ("Place", some "__init__") "__init__" "Place.__init__" s_Place_init
  f_Place_load : FnP K ("Place", some "load") "load" "Place.load" s_Place_load
  f_Place_true : FnP K ("Place", some "true") "true" "Place.true" s_Place_true
  f_Place_moved : FnP K ("Place", some "moved") "moved" "Place.moved" s_Place_moved
  f_Place_applying : FnP K ("Place", some "applying") "applying" "Place.applying" s_Place_applying
  f_is_configuration : FnP K ("is_configuration", none) "is_configuration" "is_configuration" s_is_configuration
  f_check_headed : FnP K ("check_headed", none) "check_headed" "check_headed" s_check_headed
  f_check_places : FnP K ("check_places", none) "check_places" "check_places" s_check_places
  f_followed : FnP K ("followed", none) "followed" "followed" s_followed
  f_reached : FnP K ("reached", none) "reached" "reached" s_reached
  f_levels_of : FnP K ("levels_of", none) "levels_of" "levels_of" s_levels_of
  f_refusal : FnP K ("refusal", none) "refusal" "refusal" s_refusal
  f_are_levels : FnP K ("are_levels", none) "are_levels" "are_levels" s_are_levels
  f_is_refusal : FnP K ("is_refusal", none) "is_refusal" "is_refusal" s_is_refusal
  f_L_mixed : FnP K ("_law_mixed", none) "_law_mixed" "_law_mixed" s_L_mixed
  f_L_numbers : FnP K ("_law_numbers", none) "_law_numbers" "_law_numbers" s_L_numbers
  f_L_draw : FnP K ("_law_draw", none) "_law_draw" "_law_draw" s_L_draw
  f_L_equal : FnP K ("_law_equal", none) "_law_equal" "_law_equal" s_L_equal
  f_L_all_equal : FnP K ("_law_all_equal", none) "_law_all_equal" "_law_all_equal" s_L_all_equal
  f_L_relation : FnP K ("_law_relation", none) "_law_relation" "_law_relation" s_L_relation
  f_L_all_rows : FnP K ("_law_all_rows", none) "_law_all_rows" "_law_all_rows" s_L_all_rows
  f_L_relations : FnP K ("_law_relations", none) "_law_relations" "_law_relations" s_L_relations
  f_L_made : FnP K ("_law_made", none) "_law_made" "_law_made" s_L_made
  f_L_condition : FnP K ("_law_condition", none) "_law_condition" "_law_condition" s_L_condition
  f_L_action : FnP K ("_law_action", none) "_law_action" "_law_action" s_L_action
  f_L_turned : FnP K ("_law_turned", none) "_law_turned" "_law_turned" s_L_turned
  f_L_rule : FnP K ("_law_rule", none) "_law_rule" "_law_rule" s_L_rule
  f_L_rules : FnP K ("_law_rules", none) "_law_rules" "_law_rules" s_L_rules
  f_L_machine : FnP K ("_law_machine", none) "_law_machine" "_law_machine" s_L_machine
  f_L_test : FnP K ("_law_test", none) "_law_test" "_law_test" s_L_test
  f_L_act : FnP K ("_law_act", none) "_law_act" "_law_act" s_L_act
  f_L_by_state : FnP K ("_law_by_state", none) "_law_by_state" "_law_by_state" s_L_by_state
  f_L_all_hold : FnP K ("_law_all_hold", none) "_law_all_hold" "_law_all_hold" s_L_all_hold
  f_L_after : FnP K ("_law_after", none) "_law_after" "_law_after" s_L_after
  f_L_next : FnP K ("_law_next", none) "_law_next" "_law_next" s_L_next
  f_L_first : FnP K ("_law_first", none) "_law_first" "_law_first" s_L_first
  f_L_levels : FnP K ("_law_levels", none) "_law_levels" "_law_levels" s_L_levels
  f_L_reaches : FnP K ("_law_reaches", none) "_law_reaches" "_law_reaches" s_L_reaches
  f_L_spoilt : FnP K ("_law_spoilt", none) "_law_spoilt" "_law_spoilt" s_L_spoilt
  f_L_error : FnP K ("_law_error", none) "_law_error" "_law_error" s_L_error
  f_law : FnP K ("law", none) "law" "law" s_law
  words : ∀ H : Hp, SqT K H (He.ga K "WORDS_structures") [.str "and", .str "or", .str "not", .str "some", .str "all", .str "lfp", .str "pfp", .str "tc", .str "guess", .str "true", .str "false"]
  d_CONDITIONS : ∃ es n, KDict K w (He.ga K "CONDITIONS") es n
  v_CONDITIONS_rel : ∃ t, PySem.W.nsIn K (He.ga K "CONDITIONS") "rel" = some (some (.int 4 t))
  v_CONDITIONS_eq : ∃ t, PySem.W.nsIn K (He.ga K "CONDITIONS") "eq" = some (some (.int 4 t))
  v_CONDITIONS_less : ∃ t, PySem.W.nsIn K (He.ga K "CONDITIONS") "less" = some (some (.int 4 t))
  v_CONDITIONS_last : ∃ t, PySem.W.nsIn K (He.ga K "CONDITIONS") "last" = some (some (.int 3 t))
  v_CONDITIONS_mark : ∃ t, PySem.W.nsIn K (He.ga K "CONDITIONS") "mark" = some (some (.int 4 t))
  d_ACTIONS : ∃ es n, KDict K w (He.ga K "ACTIONS") es n
  v_ACTIONS_up : ∃ t, PySem.W.nsIn K (He.ga K "ACTIONS") "up" = some (some (.int 2 t))
  v_ACTIONS_down : ∃ t, PySem.W.nsIn K (He.ga K "ACTIONS") "down" = some (some (.int 2 t))
  v_ACTIONS_zero : ∃ t, PySem.W.nsIn K (He.ga K "ACTIONS") "zero" = some (some (.int 2 t))
  v_ACTIONS_copy : ∃ t, PySem.W.nsIn K (He.ga K "ACTIONS") "copy" = some (some (.int 3 t))
  v_ACTIONS_write : ∃ t, PySem.W.nsIn K (He.ga K "ACTIONS") "write" = some (some (.int 4 t))
end K54
set_option Elab.async false
set_option linter.all false
set_option maxRecDepth 100000
set_option maxHeartbeats 0
set_option pp.maxSteps 800
namespace K54
open PySem PySem.Spec PyProof.Rows L2
namespace Hd
def fn : List He.DefD := [
  ⟨("is_integer", none), "is_integer", "is_integer", defArgs s_is_integer, defBody s_is_integer, defScope s_is_integer, [], []⟩,
  ⟨("is_below", none), "is_below", "is_below", defArgs s_is_below, defBody s_is_below, defScope s_is_below, [], []⟩,
  ⟨("power", none), "power", "power", defArgs s_power, defBody s_power, defScope s_power, [], []⟩,
  ⟨("is_name", none), "is_name", "is_name", defArgs s_is_name, defBody s_is_name, defScope s_is_name, [], []⟩,
  ⟨("is_row", none), "is_row", "is_row", defArgs s_is_row, defBody s_is_row, defScope s_is_row, [], []⟩,
  ⟨("checked", none), "checked", "checked", defArgs s_checked, defBody s_checked, defScope s_checked, [], []⟩,
  ⟨("Structure", some "__init__"), "__init__", "Structure.__init__", defArgs s_Structure_init, defBody s_Structure_init, defScope s_Structure_init, [], []⟩,
  ⟨("Structure", some "symbols"), "symbols", "Structure.symbols", defArgs s_Structure_symbols, defBody s_Structure_symbols, defScope s_Structure_symbols, [], []⟩,
  ⟨("are_heads", none), "are_heads", "are_heads", defArgs s_are_heads, defBody s_are_heads, defScope s_are_heads, [], []⟩,
  ⟨("is_condition", none), "is_condition", "is_condition", defArgs s_is_condition, defBody s_is_condition, defScope s_is_condition, [], []⟩,
  ⟨("is_action", none), "is_action", "is_action", defArgs s_is_action, defBody s_is_action, defScope s_is_action, [], []⟩,
  ⟨("check_rule", none), "check_rule", "check_rule", defArgs s_check_rule, defBody s_check_rule, defScope s_check_rule, [], []⟩,
  ⟨("looked_at", none), "looked_at", "looked_at", defArgs s_looked_at, defBody s_looked_at, defScope s_looked_at, [], []⟩,
  ⟨("machine_symbols", none), "machine_symbols", "machine_symbols", defArgs s_machine_symbols, defBody s_machine_symbols, defScope s_machine_symbols, [], []⟩,
  ⟨("by_state", none), "by_state", "by_state", defArgs s_by_state, defBody s_by_state, defScope s_by_state, [], []⟩,
  ⟨("check_symbols", none), "check_symbols", "check_symbols", defArgs s_check_symbols, defBody s_check_symbols, defScope s_check_symbols, [], []⟩,
  ⟨("first_configuration", none), "first_configuration", "first_configuration", defArgs s_first_configuration, defBody s_first_configuration, defScope s_first_configuration, [], []⟩,
  ⟨("Place", some "__init__"), "__init__", "Place.__init__", defArgs s_Place_init, defBody s_Place_init, defScope s_Place_init, [], []⟩,
  ⟨("Place", some "load"), "load", "Place.load", defArgs s_Place_load, defBody s_Place_load, defScope s_Place_load, [], []⟩,
  ⟨("Place", some "true"), "true", "Place.true", defArgs s_Place_true, defBody s_Place_true, defScope s_Place_true, [], []⟩,
  ⟨("Place", some "moved"), "moved", "Place.moved", defArgs s_Place_moved, defBody s_Place_moved, defScope s_Place_moved, [], []⟩,
  ⟨("Place", some "applying"), "applying", "Place.applying", defArgs s_Place_applying, defBody s_Place_applying, defScope s_Place_applying, [], []⟩,
  ⟨("is_configuration", none), "is_configuration", "is_configuration", defArgs s_is_configuration, defBody s_is_configuration, defScope s_is_configuration, [], []⟩,
  ⟨("check_headed", none), "check_headed", "check_headed", defArgs s_check_headed, defBody s_check_headed, defScope s_check_headed, [], []⟩,
  ⟨("check_places", none), "check_places", "check_places", defArgs s_check_places, defBody s_check_places, defScope s_check_places, [], []⟩,
  ⟨("followed", none), "followed", "followed", defArgs s_followed, defBody s_followed, defScope s_followed, [], []⟩,
  ⟨("reached", none), "reached", "reached", defArgs s_reached, defBody s_reached, defScope s_reached, [], []⟩,
  ⟨("levels_of", none), "levels_of", "levels_of", defArgs s_levels_of, defBody s_levels_of, defScope s_levels_of, [], []⟩,
  ⟨("refusal", none), "refusal", "refusal", defArgs s_refusal, defBody s_refusal, defScope s_refusal, [], []⟩,
  ⟨("are_levels", none), "are_levels", "are_levels", defArgs s_are_levels, defBody s_are_levels, defScope s_are_levels, [], []⟩,
  ⟨("is_refusal", none), "is_refusal", "is_refusal", defArgs s_is_refusal, defBody s_is_refusal, defScope s_is_refusal, [], []⟩,
  ⟨("_law_mixed", none), "_law_mixed", "_law_mixed", defArgs s_L_mixed, defBody s_L_mixed, defScope s_L_mixed, [], []⟩,
  ⟨("_law_numbers", none), "_law_numbers", "_law_numbers", defArgs s_L_numbers, defBody s_L_numbers, defScope s_L_numbers, [], []⟩,
  ⟨("_law_draw", none), "_law_draw", "_law_draw", defArgs s_L_draw, defBody s_L_draw, defScope s_L_draw, [], []⟩,
  ⟨("_law_equal", none), "_law_equal", "_law_equal", defArgs s_L_equal, defBody s_L_equal, defScope s_L_equal, [], []⟩,
  ⟨("_law_all_equal", none), "_law_all_equal", "_law_all_equal", defArgs s_L_all_equal, defBody s_L_all_equal, defScope s_L_all_equal, [], []⟩,
  ⟨("_law_relation", none), "_law_relation", "_law_relation", defArgs s_L_relation, defBody s_L_relation, defScope s_L_relation, [], []⟩,
  ⟨("_law_all_rows", none), "_law_all_rows", "_law_all_rows", defArgs s_L_all_rows, defBody s_L_all_rows, defScope s_L_all_rows, [], []⟩,
  ⟨("_law_relations", none), "_law_relations", "_law_relations", defArgs s_L_relations, defBody s_L_relations, defScope s_L_relations, [], []⟩,
  ⟨("_law_made", none), "_law_made", "_law_made", defArgs s_L_made, defBody s_L_made, defScope s_L_made, [], []⟩,
  ⟨("_law_condition", none), "_law_condition", "_law_condition", defArgs s_L_condition, defBody s_L_condition, defScope s_L_condition, [], []⟩,
  ⟨("_law_action", none), "_law_action", "_law_action", defArgs s_L_action, defBody s_L_action, defScope s_L_action, [], []⟩,
  ⟨("_law_turned", none), "_law_turned", "_law_turned", defArgs s_L_turned, defBody s_L_turned, defScope s_L_turned, [], []⟩,
  ⟨("_law_rule", none), "_law_rule", "_law_rule", defArgs s_L_rule, defBody s_L_rule, defScope s_L_rule, [], []⟩,
  ⟨("_law_rules", none), "_law_rules", "_law_rules", defArgs s_L_rules, defBody s_L_rules, defScope s_L_rules, [], []⟩,
  ⟨("_law_machine", none), "_law_machine", "_law_machine", defArgs s_L_machine, defBody s_L_machine, defScope s_L_machine, [], []⟩,
  ⟨("_law_test", none), "_law_test", "_law_test", defArgs s_L_test, defBody s_L_test, defScope s_L_test, [], []⟩,
  ⟨("_law_act", none), "_law_act", "_law_act", defArgs s_L_act, defBody s_L_act, defScope s_L_act, [], []⟩,
  ⟨("_law_by_state", none), "_law_by_state", "_law_by_state", defArgs s_L_by_state, defBody s_L_by_state, defScope s_L_by_state, [], []⟩,
  ⟨("_law_all_hold", none), "_law_all_hold", "_law_all_hold", defArgs s_L_all_hold, defBody s_L_all_hold, defScope s_L_all_hold, [], []⟩,
  ⟨("_law_after", none), "_law_after", "_law_after", defArgs s_L_after, defBody s_L_after, defScope s_L_after, [], []⟩,
  ⟨("_law_next", none), "_law_next", "_law_next", defArgs s_L_next, defBody s_L_next, defScope s_L_next, [], []⟩,
  ⟨("_law_first", none), "_law_first", "_law_first", defArgs s_L_first, defBody s_L_first, defScope s_L_first, [], []⟩,
  ⟨("_law_levels", none), "_law_levels", "_law_levels", defArgs s_L_levels, defBody s_L_levels, defScope s_L_levels, [], []⟩,
  ⟨("_law_reaches", none), "_law_reaches", "_law_reaches", defArgs s_L_reaches, defBody s_L_reaches, defScope s_L_reaches, [], []⟩,
  ⟨("_law_spoilt", none), "_law_spoilt", "_law_spoilt", defArgs s_L_spoilt, defBody s_L_spoilt, defScope s_L_spoilt, [], []⟩,
  ⟨("_law_error", none), "_law_error", "_law_error", defArgs s_L_error, defBody s_L_error, defScope s_L_error, [], []⟩,
  ⟨("law", none), "law", "law", defArgs s_law, defBody s_law, defScope s_law, [], []⟩]
def fa : List He.Fa := [
  .glo "is_integer",
  .glo "is_below",
  .glo "power",
  .glo "is_name",
  .glo "is_row",
  .glo "checked",
  .glo "are_heads",
  .glo "is_condition",
  .glo "is_action",
  .glo "check_rule",
  .glo "looked_at",
  .glo "machine_symbols",
  .glo "by_state",
  .glo "check_symbols",
  .glo "first_configuration",
  .glo "is_configuration",
  .glo "check_headed",
  .glo "check_places",
  .glo "followed",
  .glo "reached",
  .glo "levels_of",
  .glo "refusal",
  .glo "are_levels",
  .glo "is_refusal",
  .glo "_law_mixed",
  .glo "_law_numbers",
  .glo "_law_draw",
  .glo "_law_equal",
  .glo "_law_all_equal",
  .glo "_law_relation",
  .glo "_law_all_rows",
  .glo "_law_relations",
  .glo "_law_made",
  .glo "_law_condition",
  .glo "_law_action",
  .glo "_law_turned",
  .glo "_law_rule",
  .glo "_law_rules",
  .glo "_law_machine",
  .glo "_law_test",
  .glo "_law_act",
  .glo "_law_by_state",
  .glo "_law_all_hold",
  .glo "_law_after",
  .glo "_law_next",
  .glo "_law_first",
  .glo "_law_levels",
  .glo "_law_reaches",
  .glo "_law_spoilt",
  .glo "_law_error",
  .glo "law",
  .glo "Structure",
  .glo "Place",
  .glo "BadArgument",
  .glo "NotFitting",
  .glo "TooLarge",
  .glo "WORDS_structures",
  .glo "CONDITIONS",
  .glo "ACTIONS",
  .free "isinstance",
  .free "int",
  .free "bool",
  .free "str",
  .free "tuple",
  .free "list",
  .free "len",
  .free "range",
  .free "sorted",
  .free "set",
  .free "enumerate",
  .free "zip",
  .free "all",
  .int "LONGEST" 12,
  .int "LARGEST" 16,
  .int "RELATIONS" 6,
  .int "PLACES" 6,
  .int "TUPLES" 4096,
  .int "HEADS" 12,
  .int "TAPES" 6,
  .int "STATES" 4000,
  .int "RULES" 12000,
  .int "WORDS_machines" 12,
  .int "ACCEPTING" 1,
  .int "FEWER" 2000,
  .str "LETTERS" "abcdefghijklmnopqrstuvwxyz",
  .str "FIGURES" "0123456789",
  .cls "Structure",
  .mkr "Structure",
  .noat "Structure" "size",
  .noat "Structure" "relations",
  .meth "Structure" "symbols",
  .cls "Place",
  .mkr "Place",
  .noat "Place" "size",
  .noat "Place" "rules",
  .noat "Place" "relations",
  .noat "Place" "state",
  .noat "Place" "heads",
  .noat "Place" "marks",
  .meth "Place" "load",
  .meth "Place" "true",
  .meth "Place" "moved",
  .meth "Place" "applying",
  .exc "BadArgument",
  .exc "NotFitting",
  .exc "TooLarge",
  .exm "TooLarge" "TooLarge" true,
  .exm "NotFitting" "TooLarge" false,
  .exm "NotFitting" "NotFitting" true,
  .exm "BadArgument" "TooLarge" false,
  .exm "BadArgument" "NotFitting" false,
  .exm "BadArgument" "BadArgument" true]
def ts : List He.Tab := [(fun K => He.ga K "CONDITIONS", ["rel", "eq", "less", "last", "mark"]), (fun K => He.ga K "ACTIONS", ["up", "down", "zero", "copy", "write"])]
def more (K : PySem.W.Frag) : Bool := He.tupB K "WORDS_structures" [.str "and", .str "or", .str "not", .str "some", .str "all", .str "lfp", .str "pfp", .str "tc", .str "guess", .str "true", .str "false"] && (He.valsB K (He.ga K "CONDITIONS") [("rel", .int 4), ("eq", .int 4), ("less", .int 4), ("last", .int 3), ("mark", .int 4)] && He.valsB K (He.ga K "ACTIONS") [("up", .int 2), ("down", .int 2), ("zero", .int 2), ("copy", .int 3), ("write", .int 4)])
def names0 : List PySem.Str := [("_wall" : Str), ("SaysoError" : Str), ("BadStructure" : Str), ("BadArgument" : Str), ("BadMachine" : Str), ("NotFitting" : Str), ("TooLarge" : Str), ("LETTERS" : Str), ("FIGURES" : Str), ("LONGEST" : Str), ("WORDS_structures" : Str), ("LARGEST" : Str), ("RELATIONS" : Str), ("PLACES" : Str), ("TUPLES" : Str), ("is_integer" : Str), ("is_below" : Str), ("power" : Str), ("is_name" : Str), ("is_row" : Str)]
def names1 : List PySem.Str := [("checked" : Str), ("Structure" : Str), ("HEADS" : Str), ("TAPES" : Str), ("STATES" : Str), ("RULES" : Str), ("WORDS_machines" : Str), ("ACCEPTING" : Str), ("CONDITIONS" : Str), ("ACTIONS" : Str), ("are_heads" : Str), ("is_condition" : Str), ("is_action" : Str), ("check_rule" : Str), ("looked_at" : Str), ("machine_symbols" : Str), ("by_state" : Str), ("check_symbols" : Str), ("first_configuration" : Str), ("Place" : Str)]
def names2 : List PySem.Str := [("is_configuration" : Str), ("FEWER" : Str), ("check_headed" : Str), ("check_places" : Str), ("followed" : Str), ("reached" : Str), ("levels_of" : Str), ("refusal" : Str), ("are_levels" : Str), ("is_refusal" : Str), ("_law_mixed" : Str), ("_law_numbers" : Str), ("_law_draw" : Str), ("_law_equal" : Str), ("_law_all_equal" : Str), ("_law_relation" : Str), ("_law_all_rows" : Str), ("_law_relations" : Str), ("_law_made" : Str), ("_law_condition" : Str)]
def names3 : List PySem.Str := [("_law_action" : Str), ("_law_turned" : Str), ("_law_rule" : Str), ("_law_rules" : Str), ("_law_machine" : Str), ("_law_test" : Str), ("_law_act" : Str), ("_law_by_state" : Str), ("_law_all_hold" : Str), ("_law_after" : Str), ("_law_next" : Str), ("_law_first" : Str), ("_law_levels" : Str), ("_law_reaches" : Str), ("_law_spoilt" : Str), ("_law_error" : Str)]
def names : List PySem.Str := names0 ++ (names1 ++ (names2 ++ names3))
abbrev R : PySem.W.OpenRow := PySem.W.OpenLaw.row PySem.Challenge.rw_sayso_k54_whole_refusals
def allK (g : Addr → Option Obj) (n : Nat) : PySem.W.Frag := He.frG g (List.range n)
def obsA (fa : List He.Fa) (fn : List He.DefD) (ts : List He.Tab) (ex : PySem.W.Frag → Bool) (K : PySem.W.Frag) : He.AlT × Bool := (He.obsT fa fn ts K, ex K)
def hookA (fa : List He.Fa) (fn : List He.DefD) (ts : List He.Tab) (ex : PySem.W.Frag → Bool) : PySem.W.Hook where
  α := He.AlT × Bool
  obs := fun s => obsA fa fn ts ex (allK s.heap.get? s.heap.objs.size)
  val := fun w => (He.valT fn ts w, true)
  says := fun w h => ∃ K : PySem.W.Frag, K.In h ∧ He.SaysT fa fn ts w K ∧ ex K = true
  of := fun _ _ e => ⟨_, He.frG_in, congrArg (fun z : He.AlT × Bool => z.1) e, congrArg (fun z : He.AlT × Bool => z.2) e⟩
  keeps := fun _ _ _ ⟨K, hK, c⟩ k => ⟨K, PySem.W.Frag.In.keeps hK k, c⟩
end Hd
end K54
set_option Elab.async false
set_option linter.all false
set_option maxRecDepth 100000
set_option maxHeartbeats 4000000
set_option pp.maxSteps 800
namespace K54
open PySem PySem.Spec PyProof.Rows L2
namespace Hd
abbrev hk : PySem.W.Hook := hookA fa fn ts more
def ob (s : PySem.W.SharedT) : He.AlT × Bool := obsA fa fn ts more (allK (HandSHeadRun.getT s) s.n)
theorem ob_eq (s : PySem.W.SharedT) : ob s = hk.obs s.abs := by
  have e : HandSHeadRun.getT s = s.abs.heap.get? := funext (HandSHeadRun.getT_eq s)
  have n : s.n = s.abs.heap.objs.size := (PySem.W.absHeap_size s.tree s.n s.life).symm
  show obsA fa fn ts more (allK (HandSHeadRun.getT s) s.n) = obsA fa fn ts more (allK s.abs.heap.get? s.abs.heap.objs.size)
  rw [e, n]
theorem run0 (w : World) : HandSHeadRun.RunEq R (PySem.W.view R.prog [81]) hk ob 6000 names (w.withFollow "special-get-raises" false) := by
  intro os
  kernel_rfl
theorem run1 (w : World) : HandSHeadRun.RunEq R (PySem.W.view R.prog [81]) hk ob 6000 names (w.withFollow "special-get-raises" true) := by
  intro os
  kernel_rfl
theorem run (w : World) : HandSHeadRun.RunEq R (PySem.W.view R.prog [81]) hk ob 6000 names w :=
  PySem.W.byRow2 "special-get-raises" (P := fun w => HandSHeadRun.RunEq R (PySem.W.view R.prog [81]) hk ob 6000 names w) run0 run1 w
end Hd
end K54
set_option Elab.async false
set_option linter.all false
set_option maxRecDepth 100000
set_option maxHeartbeats 4000000
set_option pp.maxSteps 800
namespace K54
open PySem PySem.Spec PyProof.Rows L2
open AutoSeq1 (wpAny_loadPart') in
theorem tuple_mul_same (l : Addr) (items : Array Value) (n : Nat) (dd : Option Addr) (sl : Array (Option Value)) (x : Int) (u : Tok) (c0 : (decide (x < -(2 ^ 63)) || decide (x ≥ 2 ^ 63)) = false) (c1 : (items.isEmpty || x == 1) = true) :
    Meets (Builtin.«tuple.__mul__» ⟨[.ref l, .int x u], []⟩) (fun _ R s => s.heap.get? l = some { cls := .type "tuple", dict := dd, data := .seq items n, slots := sl } ∧ R (.ok (.ret (Value.ref l))) s) :=
  .of_wp fun prog w A R s h => by
    obtain ⟨hp, g, d, tk, os⟩ := s
    obtain ⟨hl, h⟩ := h
    have f1 := AutoSeq1.idx_int
    wp_walk using wpAny_loadPart' hl
    repeat (first
      | (refine wpAny_ite_false (decide_eq_false (by rw [c0]; exact Bool.false_ne_true)) ?_; wp_walk using wpAny_loadPart' hl)
      | (refine wpAny_ite_true (decide_eq_true c1) ?_; wp_walk using wpAny_loadPart' hl))
    all_goals exact ⟨_, rfl, h⟩
open AutoSeq1 (wpAny_loadPart') in
theorem tuple_mul_none (l : Addr) (items : Array Value) (n : Nat) (dd : Option Addr) (sl : Array (Option Value)) (x : Int) (u : Tok) (c0 : (decide (x < -(2 ^ 63)) || decide (x ≥ 2 ^ 63)) = false) (c1 : (items.isEmpty || x == 1) = false) (c2 : (decide (x ≤ 0) || items.isEmpty) = true) :
    Meets (Builtin.«tuple.__mul__» ⟨[.ref l, .int x u], []⟩) (fun _ R s => s.heap.get? l = some { cls := .type "tuple", dict := dd, data := .seq items n, slots := sl } ∧
      R (.ok (.ret (Value.ref s.heap.objs.size))) { s with heap := s.heap.push { cls := Value.type "tuple", data := Data.seq #[] }, toks := s.toks }) :=
  .of_wp fun prog w A R s h => by
    obtain ⟨hp, g, d, tk, os⟩ := s
    obtain ⟨hl, h⟩ := h
    have f1 := AutoSeq1.idx_int
    wp_walk using wpAny_loadPart' hl
    repeat (first
      | (refine wpAny_ite_false (decide_eq_false (by rw [c0]; exact Bool.false_ne_true)) ?_; wp_walk using wpAny_loadPart' hl)
      | (refine wpAny_ite_false (decide_eq_false (by rw [c1]; exact Bool.false_ne_true)) ?_; wp_walk using wpAny_loadPart' hl)
      | (refine wpAny_ite_true (decide_eq_true c2) ?_; wp_walk using wpAny_loadPart' hl))
    all_goals exact ⟨_, rfl, h⟩
def rRepA (K : PySem.W.Frag) : R2 := fun x y H Q => ∃ (l : Addr) (k : Nat) (xs : List V), x = .ref l ∧ y = .int k ∧ SqT K H l xs ∧ k ≤ 1000 ∧ xs.length ≤ 1000 ∧
  ((k = 1 ∨ xs = []) → Q (.ref l) H) ∧ (k ≠ 1 → xs ≠ [] → ∀ p, H p = none → Q (.ref p) (upd H p (.tup (List.replicate k xs).flatten)))
section
variable {X : Cx}
theorem op_repA : OpR X (binaryOp .Mult) (rRepA X.K) := by
  intro pins s σ H x y v u Q I rx ry h
  obtain ⟨l, k, xs, rfl, rfl, hT, h2, hz, q1, q2⟩ := h
  by_cases hbig : xs ≠ [] ∧ 2 ≤ k
  · exact op_repT pins s σ H _ _ v u Q I rx ry ⟨l, k, xs, rfl, rfl, hT, hbig.1, by omega, by omega, hz, by simpa using q2 (by omega) hbig.1⟩
  · cases rx
    obtain ⟨t, rfl⟩ := ry
    obtain ⟨its, r, ⟨⟨cls, dd, data, sl⟩, ho, hc, n, hd⟩, hs⟩ := I.tuple hT
    simp only at hc hd
    subst hc hd
    have hle : its.length = xs.length := r.length.symm
    have c0 : (decide ((k : Int) < -(2 ^ 63)) || decide ((k : Int) ≥ 2 ^ 63)) = false := by
      rw [decide_eq_false (by omega), decide_eq_false (by omega)] <;> rfl
    by_cases h1 : k = 1 ∨ xs = []
    · have c1 : (its.toArray.isEmpty || (k : Int) == 1) = true := by
        rcases h1 with h1 | h1
        · subst h1
          simp
        · subst h1
          have : its = [] := List.eq_nil_of_length_eq_zero hle
          subst this
          simp
      refine wpAny_binaryOp_repeat_ref (T := "tuple") (U := "int") (by decide) ⟨_, ho, rfl⟩ (fun s' => typeIs_int s' k t) noFill_tuple_mul F.fills_int_mul F.slot_int_rmul repeat_tuple F.slot_int_index.lookup
        (call_meets F.slot_int_rmul (typeIs_int s k t) F.entry_int_rmul (F.args_int_rmul_2 _ _) (int_rmul_tuple k t l its.toArray n dd sl)
          ⟨ho, rfl, ⟨_, ho, rfl⟩, call_meets F.slot_tuple_mul ⟨_, ho, rfl⟩ F.entry_tuple_mul (F.args_tuple_mul_2 _ _) (tuple_mul_same l its.toArray n dd sl k t c0 c1) ⟨ho, ?_⟩⟩)
      exact ⟨.ref l, H, I, rfl, q1 h1⟩
    · have hk0 : k = 0 := by
        have hx : xs ≠ [] := fun e => h1 (.inr e)
        have : ¬ 2 ≤ k := fun e => hbig ⟨hx, e⟩
        have : k ≠ 1 := fun e => h1 (.inl e)
        omega
      subst hk0
      have hne : its ≠ [] := fun e => h1 (.inr (List.eq_nil_of_length_eq_zero (by rw [← hle, e]; rfl)))
      have c1 : (its.toArray.isEmpty || ((0 : Nat) : Int) == 1) = false := by
        cases its with
        | nil => exact absurd rfl hne
        | cons a b => rfl
      have c2 : (decide (((0 : Nat) : Int) ≤ 0) || its.toArray.isEmpty) = true := by simp
      refine wpAny_binaryOp_repeat_ref (T := "tuple") (U := "int") (by decide) ⟨_, ho, rfl⟩ (fun s' => typeIs_int s' _ t) noFill_tuple_mul F.fills_int_mul F.slot_int_rmul repeat_tuple F.slot_int_index.lookup
        (call_meets F.slot_int_rmul (typeIs_int s _ t) F.entry_int_rmul (F.args_int_rmul_2 _ _) (int_rmul_tuple _ t l its.toArray n dd sl)
          ⟨ho, rfl, ⟨_, ho, rfl⟩, call_meets F.slot_tuple_mul ⟨_, ho, rfl⟩ F.entry_tuple_mul (F.args_tuple_mul_2 _ _) (tuple_mul_none l its.toArray n dd sl _ t c0 c1 c2) ⟨ho, ?_⟩⟩)
      refine ⟨.ref s.heap.objs.size, _, I.laid (t' := s.toks) (o := .tup []) (fun b ob q => Heap.get?_push_of_some _ q) (Nat.le_refl _) ?_, rfl, q2 (by omega) (fun e => h1 (.inr e)) _ (I.hok.fresh (Nat.le_refl _))⟩
      exact ⟨Nat.zero_le _, [], .nil, IsTup.new _ _⟩
end
end K54
set_option Elab.async false
set_option linter.all false
set_option maxRecDepth 100000
set_option maxHeartbeats 4000000
set_option pp.maxSteps 800
namespace K54
open PySem PySem.Spec PyProof.Rows L2
structure Def (P : Program) (w : World) (K : PySem.W.Frag) (mg : Str → Option Value) (base : Heap) (CX : CXT) (k : Nat) (p : Str × Option Str) (ps : List Str) (sp : Sp) : Prop where
  ex : ∃ fd, FnOk P w K mg base CX k (He.fAd K p) fd ps sp ∧ Binds K fd ps []
  kp : PySem.W.keepIn K (.ref (He.fAd K p)) = true
section
variable {P : Program} {w : World} {K : PySem.W.Frag} {mg : Str → Option Value} {base : Heap} {CX : CXT} {j k : Nat} {p : Str × Option Str} {ps : List Str} {sp sp' : Sp}
theorem Def.mono (D : Def P w K mg base CX j p ps sp) (h : j ≤ k) : Def P w K mg base CX k p ps sp :=
  let ⟨fd, F, b⟩ := D.ex
  ⟨⟨fd, F.mono h, b⟩, D.kp⟩
theorem Def.imp (D : Def P w K mg base CX k p ps sp) (h : ∀ vs H Q E, sp' vs H Q E → sp vs H Q E) : Def P w K mg base CX k p ps sp' :=
  let ⟨fd, F, b⟩ := D.ex
  ⟨⟨fd, F.imp h, b⟩, D.kp⟩
theorem Def.of {x q : Str} {st : Stmt} {N : List Str} (F : FnP K p x q st) (S : FnScope N ps (defScope st))
    (bi : ∀ (kV doc pm : Value) (an : Option Addr) (cdv ct : Value) (us : List Value), us.length = ps.length → bindArgs (PySem.W.fnOf x q (defArgs st) (defBody st) (defScope st) .none kV doc pm an cdv ct) ⟨us, []⟩ = pure (ps.zip us))
    (len : ∀ vs H Q E, sp vs H Q E → vs.length = ps.length)
    (hbody : ∀ (cdv : Value) (A : Around) (outer : List Env) (s : Shared) (H : Hp) (vs : List V) (Q : VK) (E : XK), Room k (A.deeper (envOfC q (defScope st) s.heap.objs.size (He.fAd K p) cdv)) → sp vs H Q E →
      ∃ t, PSs (cxOf CX P w K mg base N q (defScope st) (He.fAd K p) cdv A outer s H E) (defBody st) t ∧ t { nx := fun _ H' => Q .non H', rt := Q } (start N vs) H) : Def P w K mg base CX (k + 1) p ps sp :=
  let ⟨fd, G⟩ := F
  ⟨⟨fd, G.ok S len hbody, G.bindsN bi⟩, G.kp⟩
theorem Def.of0 {x q : Str} {st : Stmt} {N : List Str} (F : FnP K p x q st) (S : FnScope N ps (defScope st))
    (bi : ∀ (kV doc pm : Value) (an : Option Addr) (cdv ct : Value) (us : List Value), us.length = ps.length → bindArgs (PySem.W.fnOf x q (defArgs st) (defBody st) (defScope st) .none kV doc pm an cdv ct) ⟨us, []⟩ = pure (ps.zip us))
    (len : ∀ vs H Q E, sp vs H Q E → vs.length = ps.length)
    (hbody : ∀ (cdv : Value) (A : Around) (outer : List Env) (s : Shared) (H : Hp) (vs : List V) (Q : VK) (E : XK), Room k (A.deeper (envOfC q (defScope st) s.heap.objs.size (He.fAd K p) cdv)) → sp vs H Q E →
      ∃ t, PSs (cxOf CX0 P w K mg base N q (defScope st) (He.fAd K p) cdv A outer s H E).nox (defBody st) t ∧ t { nx := fun _ H' => Q .non H', rt := Q } (start N vs) H) : Def P w K mg base CX0 (k + 1) p ps sp :=
  Def.of F S bi len fun cdv A outer s H vs Q E hr h =>
    let ⟨t, a, b⟩ := hbody cdv A outer s H vs Q E hr h
    ⟨t, PSs.nox a, b⟩
end
section
variable {X : Cx} {CX : CXT} {k : Nat} {ps : List Str} {sp : Sp} {E : XK} {x m : Str} {C : Str} {p pos apos : Pos} {e o : Expr} {es : List Expr} {ta : TE} {t : TA}
theorem pe_f (D : Def X.prog X.w X.K X.mg X.base CX k (x, none) ps sp) (hr : Room k X.A) (hm : X.mg x = some (.ref (He.ga X.K x))) (hx : Passes CX X E) (ha : PA X (e :: es) t) (hg : Gl X x := by rfl) (hdb : (x == ("__debug__" : Str)) = false := by decide)
    (he : starEach (e :: es) X.env = (false, eval e X.env) :: starEach es X.env := by rfl) (hpl : (backTo pos (starEach es X.env)).any (·.1) = false := by rfl) :
    PE X (.Call (.Name x p) (e :: es) [] pos) (tCall sp [] E t) :=
  let ⟨_, F, b⟩ := D.ex
  pe_call F hr hg hm D.kp b .nil hx ha hdb he hpl
theorem pe_om {pl : Sem Bool} (D : Def X.prog X.w X.K X.mg X.base CX k (C, some m) ps sp) (hr : Room k X.A) (c : Cls X.K (He.ga X.K C)) (hm : Meth X.K (He.ga X.K C) m (He.ma X.K (He.ga X.K C) m)) (hx : Passes CX X E) (ho : PE X o ta) (ha : PA X (e :: es) t)
    (hst : starEach (e :: es) X.env = (false, eval e X.env) :: starEach es X.env := by rfl) (hpl : (backTo pos (starEach es X.env)).any (·.1) = false := by rfl)
    (ht : eval (.Call (.Attribute o m apos) (e :: es) [] pos) X.env = (do
      let ov ← eval o X.env
      standAt apos.atName
      let (f, first) ← holding [ov] (getMethod ov m pl)
      callWith pos f first (backTo pos (starEach (e :: es) X.env)) (backToKw pos (keywordEach [] X.env))) := by rfl) :
    PE X (.Call (.Attribute o m apos) (e :: es) [] pos) (tMeth (He.ga X.K C) m sp [] E ta t) :=
  let ⟨_, F, b⟩ := D.ex
  pe_meth ho c hm F hr b .nil hx ha hst hpl ht
theorem pe_om0 {pl : Sem Bool} (D : Def X.prog X.w X.K X.mg X.base CX k (C, some m) ps sp) (hr : Room k X.A) (c : Cls X.K (He.ga X.K C)) (hm : Meth X.K (He.ga X.K C) m (He.ma X.K (He.ga X.K C) m)) (hx : Passes CX X E) (ho : PE X o ta)
    (ht : eval (.Call (.Attribute o m apos) [] [] pos) X.env = (do
      let ov ← eval o X.env
      standAt apos.atName
      let (f, first) ← holding [ov] (getMethod ov m pl)
      callWith pos f first (backTo pos (starEach [] X.env)) (backToKw pos (keywordEach [] X.env))) := by rfl) :
    PE X (.Call (.Attribute o m apos) [] [] pos) (tMeth (He.ga X.K C) m sp [] E ta tNil) :=
  let ⟨_, F, b⟩ := D.ex
  pe_meth0 ho c hm F hr b .nil hx ht
theorem pe_new (D : Def X.prog X.w X.K X.mg X.base CX k (x, some "__init__") ps sp) (hr : Room (k + 1) X.A) (M : Mk X.K (He.ga X.K x) (He.ma X.K (He.ga X.K x) "__init__")) (hm : X.mg x = some (.ref (He.ga X.K x))) (hx : Passes CX X E) (ha : PA X (e :: es) t) (hg : Gl X x := by rfl)
    (hdb : (x == ("__debug__" : Str)) = false := by decide) (he : starEach (e :: es) X.env = (false, eval e X.env) :: starEach es X.env := by rfl) (hpl : (backTo pos (starEach es X.env)).any (·.1) = false := by rfl) :
    PE X (.Call (.Name x p) (e :: es) [] pos) (tMake (He.ga X.K x) sp [] E t) :=
  let ⟨_, F, b⟩ := D.ex
  pe_make M F hr hg hm b .nil hx ha hdb he hpl
theorem pe_b {id : String} {r : List V → Hp → VK → Prop} (hc : CallR X (.builtin id) r) (hm : X.mg x = none) (ha : PA X (e :: es) t) (hg : Gl X x := by rfl) (hv : bootBuiltins x = some (.builtin id) := by decide +kernel) (hn : x ≠ "__name__" := by decide) (hdb : (x == ("__debug__" : Str)) = false := by decide)
    (he : starEach (e :: es) X.env = (false, eval e X.env) :: starEach es X.env := by rfl) (hpl : (backTo pos (starEach es X.env)).any (·.1) = false := by rfl) : PE X (.Call (.Name x p) (e :: es) [] pos) (tCB r t) :=
  pe_callB hc hg hm hv ha hn hdb he hpl
theorem pe_ty {T : String} {r : List V → Hp → VK → Prop} (hc : CallR X (.type T) r) (hm : X.mg x = none) (ha : PA X (e :: es) t) (hg : Gl X x := by rfl) (hv : bootBuiltins x = some (.type T) := by decide +kernel) (hn : x ≠ "__name__" := by decide) (hdb : (x == ("__debug__" : Str)) = false := by decide)
    (he : starEach (e :: es) X.env = (false, eval e X.env) :: starEach es X.env := by rfl) (hpl : (backTo pos (starEach es X.env)).any (·.1) = false := by rfl) : PE X (.Call (.Name x p) (e :: es) [] pos) (tCB r t) :=
  pe_callTy hc hg hm hv ha hn hdb he hpl
theorem pe_tyv {T : String} {pos : Pos} (hm : X.mg x = none) (hg : Gl X x := by rfl) (hv : bootBuiltins x = some (.type T) := by decide +kernel) (hn : x ≠ "__name__" := by decide) (hdb : (x == ("__debug__" : Str)) = false := by decide) : PE X (.Name x pos) (tC (.ty T)) :=
  pe_bltn hg hm hv rfl hn hdb
theorem pe_gi {i : Int} {pos : Pos} (hm : ∃ t, X.mg x = some (.int i t)) (hg : Gl X x := by rfl) (hdb : (x == ("__debug__" : Str)) = false := by decide) : PE X (.Name x pos) (tC (.int i)) :=
  let ⟨t, e⟩ := hm
  pe_glob hg e ⟨t, rfl⟩ hdb
theorem pe_gs {z : Str} {pos : Pos} (hm : ∃ t, X.mg x = some (.str z t)) (hg : Gl X x := by rfl) (hdb : (x == ("__debug__" : Str)) = false := by decide) : PE X (.Name x pos) (tC (.str z)) :=
  let ⟨t, e⟩ := hm
  pe_glob hg e ⟨t, rfl⟩ hdb
theorem pe_gr {a : Addr} {pos : Pos} (hm : X.mg x = some (.ref a)) (hg : Gl X x := by rfl) (hdb : (x == ("__debug__" : Str)) = false := by decide) : PE X (.Name x pos) (tC (.ref a)) :=
  pe_glob hg hm rfl hdb
def gtL (K : PySem.W.Frag) : V → V → Hp → VK → Prop := fun x y H Q => ∃ (p : Addr) (xs : List V) (j : Nat) (v : V), x = .ref p ∧ y = .int j ∧ SqL K H p xs ∧ xs[j]? = some v ∧ Q v H
theorem get_list : PGet X (gtL X.K) := by
  intro pins s σ H o i ov iv Q I r1 r2 h
  obtain ⟨p, xs, j, v, rfl, rfl, hq, hx, q⟩ := h
  cases r1
  obtain ⟨t, rfl⟩ := r2
  obtain ⟨its, rv, pl, hz⟩ := I.list hq
  obtain ⟨u, hu, ru⟩ := rv.get hx
  have hj : j < xs.length := (List.getElem?_eq_some_iff.mp hx).1
  rw [sizeLine_eq] at hz
  refine PySem.wpAny_getItem_list pl.isList (by omega) (by omega) (by simpa using hu) ⟨v, H, I, ru, q⟩
end
end K54
set_option Elab.async false
set_option linter.all false
set_option maxRecDepth 100000
set_option maxHeartbeats 4000000
set_option pp.maxSteps 800
namespace K54
open PySem PySem.Spec PyProof.Rows L2
mutual
inductive KyT (H : Hp) : NestedKey → V → Prop
  | num (i : Int) : KyT H (.num i) (.int i)
  | tup {a : Addr} {xs : List V} {ks : List NestedKey} : H a = some (.tup xs) → KyTs H ks xs → KyT H (.tup ks) (.ref a)
inductive KyTs (H : Hp) : List NestedKey → List V → Prop
  | nil : KyTs H [] []
  | cons {k : NestedKey} {v : V} {ks : List NestedKey} {vs : List V} : KyT H k v → KyTs H ks vs → KyTs H (k :: ks) (v :: vs)
end
def TupS (H H' : Hp) : Prop := ∀ b ys, H b = some (.tup ys) → H' b = some (.tup ys)
theorem TupS.refl (H : Hp) : TupS H H := fun _ _ e => e
theorem TupS.trans {H H1 H2 : Hp} (a : TupS H H1) (b : TupS H1 H2) : TupS H H2 := fun c ys e => b c ys (a c ys e)
theorem Same.tupS {H H' : Hp} (s : Same H H') : TupS H H' := fun b ys e => s b _ e
theorem tupS_upd {H : Hp} {a : Addr} {o : HO} (h : ∀ ys, H a ≠ some (.tup ys)) : TupS H (upd H a o) := fun b ys e => by
  rw [upd_ne (fun z => by rw [z] at e; exact h ys e)]
  exact e
mutual
theorem KyT.mono {H H' : Hp} (t : TupS H H') : ∀ {k : NestedKey} {v : V}, KyT H k v → KyT H' k v
  | _, _, .num i => .num i
  | _, _, .tup e r => .tup (t _ _ e) (KyTs.mono t r)
theorem KyTs.mono {H H' : Hp} (t : TupS H H') : ∀ {ks : List NestedKey} {vs : List V}, KyTs H ks vs → KyTs H' ks vs
  | _, _, .nil => .nil
  | _, _, .cons a b => .cons (KyT.mono t a) (KyTs.mono t b)
end
section
variable {X : Cx} {pins : List (Addr × Obj)} {σ : L2.St} {H : Hp} {s : Shared}
mutual
theorem key_is (I : Inv X pins σ H s) : ∀ {k : NestedKey} {v : V} {u : Value}, KyT H k v → RelV v u → NestedIs s.heap k u
  | _, _, _, .num i, r => by
    obtain ⟨t, rfl⟩ := r
    exact .int i t
  | _, _, _, @KyT.tup _ a xs ks e q, r => by
    cases r
    obtain ⟨z, its, rv, ob, ho, hc, n, hd⟩ := I.hok a _ e
    exact .tup ho hc hd (by simpa using keys_are I q rv)
theorem keys_are (I : Inv X pins σ H s) : ∀ {ks : List NestedKey} {vs : List V} {us : List Value}, KyTs H ks vs → Vals vs us → NestedAll s.heap ks us
  | _, _, _, .nil, r => by
    cases r
    exact .nil
  | _, _, _, .cons a b, r => by
    cases r with
    | cons r1 r2 => exact .cons (key_is I a r1) (keys_are I b r2)
end
theorem KyT.ref {k : List NestedKey} {v : V} (h : KyT H (.tup k) v) : ∃ a, v = .ref a := by
  cases h with
  | tup e q => exact ⟨_, rfl⟩
end
def NdP (P : Program) (w : World) (a : Addr) (xs : List (NestedKey × Addr × Value)) (h : Heap) : Prop :=
  (a == sysModules) = false ∧ xs.length ≤ sizeLine ∧ ∃ o es ep, h.get? a = some o ∧ o.ExactDict ∧ o.data = .dict es ep ∧ es.toList = xs.map (entryOfKey (nestedKind P w)) ∧ (xs.map (·.1)).Nodup
def NdO (P : Program) (w : World) (a : Addr) (xs : List (NestedKey × Addr × Value)) : HO := .ext fun h => NdP P w a xs h
def NdRel (H : Hp) : List NestedKey → List (NestedKey × Addr × Value) → Prop := Paired fun k q => q.1 = k ∧ k.depth ≤ 8 ∧ KyT H k (.ref q.2.1)
def NdAt (P : Program) (w : World) (H : Hp) (d : Addr) (ks : List NestedKey) : Prop := ∃ xs, H d = some (NdO P w d xs) ∧ NdRel H ks xs
theorem ndO_ok {P : Program} {w : World} {H : Hp} {h : Heap} {a : Addr} {xs : List (NestedKey × Addr × Value)} (p : NdP P w a xs h) : ObjOk P w H h a (NdO P w a xs) := by
  have ⟨_, _, o, _, _, ho, _⟩ := p
  refine ⟨p, ⟨o, ho⟩, fun h1 h2 q k => ?_⟩
  have ⟨z1, z2, o', es, ep, e, r⟩ := q
  exact ⟨z1, z2, o', es, ep, k o' e, r⟩
theorem NdRel.mono {H H' : Hp} (t : TupS H H') {ks : List NestedKey} {xs : List (NestedKey × Addr × Value)} (r : NdRel H ks xs) : NdRel H' ks xs := Paired.mapP r fun _ _ z => ⟨z.1, z.2.1, z.2.2.mono t⟩
theorem NdRel.keys {H : Hp} : ∀ {ks : List NestedKey} {xs : List (NestedKey × Addr × Value)}, NdRel H ks xs → xs.map (·.1) = ks
  | _, _, .nil => rfl
  | _, _, .cons z t => by rw [List.map_cons, z.1, NdRel.keys t]
theorem NdRel.len {H : Hp} {ks : List NestedKey} {xs : List (NestedKey × Addr × Value)} (r : NdRel H ks xs) : xs.length = ks.length := by rw [← r.keys, List.length_map]
theorem NdRel.look {H : Hp} (k : NestedKey) : ∀ {ks : List NestedKey} {xs : List (NestedKey × Addr × Value)}, NdRel H ks xs → (atKey xs k).isSome = decide (k ∈ ks)
  | _, _, .nil => by simp [atKey]
  | k0 :: ks, x :: xs, .cons z t => by
    have ih := NdRel.look k t
    unfold atKey at ih ⊢
    rw [List.find?_cons]
    by_cases e : x.1 = k
    · rw [decide_eq_true e]
      have : k ∈ k0 :: ks := by rw [← z.1, e]; exact List.mem_cons_self
      rw [decide_eq_true this] <;> rfl
    · rw [decide_eq_false e]
      have : (k ∈ k0 :: ks) ↔ k ∈ ks := by
        rw [List.mem_cons]
        constructor
        · rintro (q | q)
          · exact absurd (z.1.trans q.symm) e
          · exact q
        · exact .inr
      rw [decide_eq_decide.mpr this]
      exact ih
theorem NdRel.put {H : Hp} {ks : List NestedKey} {xs : List (NestedKey × Addr × Value)} (r : NdRel H ks xs) {k : NestedKey} (hk : k.depth ≤ 8) {b : Addr} {v : Value} (hb : KyT H k (.ref b)) :
    NdRel H (if k ∈ ks then ks else ks ++ [k]) (storedH xs k b v) := by
  have e := r.look k
  by_cases m : k ∈ ks
  · rw [if_pos m]
    rw [decide_eq_true m] at e
    unfold storedH
    rw [if_pos e]
    have go : ∀ {ks : List NestedKey} {xs : List (NestedKey × Addr × Value)}, NdRel H ks xs → NdRel H ks (xs.map (putAt k v)) := by
      intro ks xs r
      induction r with
      | nil => exact .nil
      | @cons a q _ _ z t ih =>
        refine .cons ?_ ih
        unfold putAt
        split
        · exact z
        · exact z
    exact go r
  · rw [if_neg m]
    rw [decide_eq_false m] at e
    unfold storedH
    rw [if_neg (by rw [e]; exact Bool.false_ne_true)]
    have go : ∀ {ks : List NestedKey} {xs : List (NestedKey × Addr × Value)}, NdRel H ks xs → NdRel H (ks ++ [k]) (xs ++ [(k, b, v)]) := by
      intro ks xs r
      induction r with
      | nil => exact .cons ⟨rfl, hk, hb⟩ .nil
      | cons z t ih => exact .cons z ih
    exact go r
theorem NdAt.mono {P : Program} {w : World} {H H' : Hp} {d : Addr} {ks : List NestedKey} (n : NdAt P w H d ks) (t : TupS H H') (hd : ∀ o, H d = some o → H' d = some o) : NdAt P w H' d ks :=
  let ⟨xs, e, r⟩ := n
  ⟨xs, hd _ e, r.mono t⟩
section
variable {X : Cx} {pins : List (Addr × Obj)} {σ : L2.St} {H : Hp} {s : Shared} {d : Addr} {ks : List NestedKey}
theorem nd_raw (I : Inv X pins σ H s) {xs : List (NestedKey × Addr × Value)} (e : H d = some (NdO X.prog X.w d xs)) (r : NdRel H ks xs) : (d == sysModules) = false ∧ xs.length ≤ sizeLine ∧ s.heap.DictOfH (nestedKind X.prog X.w) d xs := by
  have ob : ObjOk X.prog X.w H s.heap d (NdO X.prog X.w d xs) := I.hok d _ e
  have ⟨z1, z2, o, es, ep, ho, h1, h2, h3, h4⟩ : NdP X.prog X.w d xs s.heap := ob.1
  refine ⟨z1, z2, o, es, ep, ho, h1, h2, h3, ?_, h4⟩
  have go : ∀ {ks : List NestedKey} {xs : List (NestedKey × Addr × Value)}, NdRel H ks xs → ∀ x ∈ xs, (nestedKind X.prog X.w).is s.heap x.1 x.2.1 := by
    intro ks xs r
    induction r with
    | nil => intro x hx; cases hx
    | @cons a q as qs z t ih =>
      intro x hx
      rcases List.mem_cons.mp hx with rfl | hx
      · obtain ⟨z1, z2, z3⟩ := z
        rw [z1]
        exact ⟨key_is I z3 rfl, z2⟩
      · exact ih x hx
  exact go r
theorem nest_room {A : Around} (hu : A.units + 64 < cLine) : (nestedKind X.prog X.w).room A.in1 := by
  show A.units + 1 + 8 < cLine
  omega
def rInN (P : Program) (w : World) (neg : Bool) : R2 := fun x y H Q => ∃ (d : Addr) (k : NestedKey) (ks : List NestedKey), y = .ref d ∧ (∃ b, x = .ref b) ∧ KyT H k x ∧ k.depth ≤ 8 ∧ NdAt P w H d ks ∧ Q (.bl (if neg then !decide (k ∈ ks) else decide (k ∈ ks))) H
theorem op_inN (hu : X.A.units + 64 < cLine) : OpR X (compareOp .In) (rInN X.prog X.w false) := by
  intro pins s σ H x y v u Q I rx ry h
  obtain ⟨d, k, ks, rfl, ⟨b, rfl⟩, hk, hd8, ⟨xs, e, r⟩, q⟩ := h
  cases rx
  cases ry
  obtain ⟨z1, z2, dd⟩ := nd_raw I e r
  refine wpAny_in_heap (nest_room hu) ⟨key_is I hk rfl, hd8⟩ z1 dd ?_
  rw [r.look k]
  exact ⟨.bl _, H, I.tok _, rfl, q⟩
theorem op_notInN (hu : X.A.units + 64 < cLine) : OpR X (compareOp .NotIn) (rInN X.prog X.w true) := by
  intro pins s σ H x y v u Q I rx ry h
  obtain ⟨d, k, ks, rfl, ⟨b, rfl⟩, hk, hd8, ⟨xs, e, r⟩, q⟩ := h
  cases rx
  cases ry
  obtain ⟨z1, z2, dd⟩ := nd_raw I e r
  refine notIn_keyed (nest_room hu) ⟨key_is I hk rfl, hd8⟩ z1 ⟨xs, dd, rfl⟩ ?_
  rw [valueAt_pairsH, Option.isSome_map, r.look k]
  exact ⟨.bl _, H, I.tok _, rfl, q⟩
theorem nd_tup {P : Program} {w : World} {o : HO} {xs : List (NestedKey × Addr × Value)} (e : H d = some (NdO P w d xs)) : TupS H (upd H d o) := tupS_upd fun ys z => by
  rw [e] at z
  cases z
def rSetN (P : Program) (w : World) : TSet := fun o i v H Q => ∃ (d : Addr) (k : NestedKey) (ks : List NestedKey), o = .ref d ∧ (∃ b, i = .ref b) ∧ KyT H k i ∧ k.depth ≤ 8 ∧ NdAt P w H d ks ∧ ks.length < sizeLine ∧
  ∀ n, NdAt P w (upd H d n) d (if k ∈ ks then ks else ks ++ [k]) → Q (upd H d n)
theorem set_N (hu : X.A.units + 64 < cLine) : PSet X (rSetN X.prog X.w) := by
  intro pins s σ H o i v ov iv u Q I r1 r2 r3 h
  obtain ⟨d, k, ks, rfl, ⟨b, rfl⟩, hk, hd8, ⟨xs, e, r⟩, hl, q⟩ := h
  cases r1
  cases r2
  obtain ⟨z1, z2, dd⟩ := nd_raw I e r
  refine wpAny_setItem_heap (v := u) (hsz := z2) (nest_room hu) ⟨key_is I hk rfl, hd8⟩ dd fun h' dd' hs => ?_
  obtain ⟨ob, es, ep, hq, h2, h3, h4, _, h5⟩ := dd'
  have t : TupS H (upd H d (NdO X.prog X.w d (storedH xs k b u))) := nd_tup e
  have rr := (r.put (v := u) hd8 hk).mono t
  have hl' : (storedH xs k b u).length ≤ sizeLine := by
    rw [rr.len]
    split
    · omega
    · rw [List.length_append, List.length_singleton]; omega
  exact ⟨_, d_write I (by rw [e]; exact True.intro) hs ⟨ob, hq⟩ (ndO_ok ⟨z1, hl', ob, es, ep, hq, h2, h3, h4, h5⟩), q _ ⟨_, upd_same, rr⟩⟩
def tDNewN (P : Program) (w : World) : TE := fun _ H Q => ∀ p, H p = none → ∀ n, NdAt P w (upd H p n) p [] → Q (.ref p) (upd H p n)
theorem nd_empty (h : Heap) (hb : sysModules < h.objs.size) : NdP X.prog X.w h.objs.size [] (h.push { cls := .type "dict", data := .dict #[] }) :=
  ⟨beq_eq_false_iff_ne.mpr (Nat.ne_of_gt hb), Nat.zero_le _, _, #[], 0, Heap.get?_push_size _ rfl, ⟨rfl, rfl, rfl⟩, rfl, rfl, List.nodup_nil⟩
end
end K54
set_option Elab.async false
set_option linter.all false
set_option maxRecDepth 100000
set_option maxHeartbeats 4000000
set_option pp.maxSteps 800
namespace K54
open PySem PySem.Spec PyProof.Rows L2
section
variable {X : Cx} {pos : Pos}
theorem pe_dnewN : PE X (.Dict [] [] pos) (tDNewN X.prog X.w) := ⟨fun pins s σ H Q I h => by
  have hn := I.hok.fresh (Nat.le_refl s.heap.objs.size)
  exact wpAny_Dict_empty ⟨.ref s.heap.objs.size, _, I.laid (a := s.heap.objs.size) (o := NdO X.prog X.w s.heap.objs.size []) (t' := s.toks) (fun _ _ q => Heap.get?_push_of_some _ q) (Nat.le_refl _) (ndO_ok (nd_empty s.heap I.big)), rfl,
    h _ hn _ ⟨[], upd_same, .nil⟩⟩⟩
def tDispN (P : Program) (w : World) (tk tv : TE) : TE := fun σ H Q => ∀ p, H p = none → ∀ n, NdAt P w (upd H p n) p [] → tk σ (upd H p n) fun x H1 => tv σ H1 fun _ H2 =>
  H2 p = some n ∧ ∃ k : NestedKey, (∃ b, x = .ref b) ∧ KyT H2 k x ∧ k.depth ≤ 8 ∧ ∀ n', NdAt P w (upd H2 p n') p [k] → Q (.ref p) (upd H2 p n')
theorem pe_dispN {k v : Expr} {tk tv : TE} (hu : X.A.units + 64 < cLine) (hk : PE X k tk) (hv : PE X v tv) : PE X (.Dict [some k] [v] pos) (tDispN X.prog X.w tk tv) := by
  refine ⟨fun pins s σ H Q I h => ?_⟩
  have hn := I.hok.fresh (Nat.le_refl s.heap.objs.size)
  have I1 := I.laid (a := s.heap.objs.size) (o := NdO X.prog X.w s.heap.objs.size []) (h' := s.heap.push { cls := .type "dict", data := .dict #[] }) (t' := s.toks) (fun _ _ q => Heap.get?_push_of_some _ q) (Nat.le_refl _) (ndO_ok (nd_empty s.heap I.big))
  have h1 := h _ hn (NdO X.prog X.w s.heap.objs.size []) ⟨[], upd_same, .nil⟩
  have pp : PPs X pos [some k] [v] [(tk, tv)] := pps_cons hk hv pps_nil
  rw [arm_eval_Dict, zip_pairTrees [some k] [v] X.env pos rfl rfl, dictDisplay_pairs (pairTrees [some k] [v] X.env pos) (fun q => nomatch q) (by show 1 < 17; decide)]
  refine wpAny_bind (wpAny_standAt (wpAny_bind (wpAny_subDictH (knd := nestedKind X.prog X.w) (by show X.A.units + 8 < cLine; omega) (by show 1 ≤ 15; decide) ?_)))
  refine thn (pp.run pins _ σ _ (fun ps H2 => match ps with
    | [(x, y)] => H2 s.heap.objs.size = some (NdO X.prog X.w s.heap.objs.size []) ∧ ∃ k : NestedKey, (∃ b, x = .ref b) ∧ KyT H2 k x ∧ k.depth ≤ 8 ∧ ∀ n', NdAt X.prog X.w (upd H2 s.heap.objs.size n') s.heap.objs.size [k] → Q (.ref s.heap.objs.size) (upd H2 s.heap.objs.size n')
    | _ => False) I1 h1) fun ws s2 ⟨ps, H2, I2, rel, q2⟩ => ?_
  match ps, q2, rel with
  | [(x, y)], q2, .cons (b := (vx, vy)) ⟨rx, ry⟩ .nil =>
    obtain ⟨e, k, ⟨b, rfl⟩, kt, k8, q3⟩ := q2
    obtain rfl : vx = .ref b := rx
    obtain ⟨z1, z2, dd⟩ := nd_raw I2 e .nil
    refine ⟨[(k, b, vy)], ⟨rfl, rfl, ⟨key_is I2 kt rfl, k8⟩, trivial⟩, dd, fun h' tk' dd' hs => wpAny_pure ?_⟩
    obtain ⟨ob, es, ep, hq, h2, h3, h4, h6, h5⟩ : h'.DictOfH (nestedKind X.prog X.w) s.heap.objs.size [(k, b, vy)] := dd'
    have rr : NdRel H2 [k] [(k, b, vy)] := .cons ⟨rfl, k8, kt⟩ .nil
    have t : TupS H2 (upd H2 s.heap.objs.size (NdO X.prog X.w s.heap.objs.size [(k, b, vy)])) := nd_tup e
    exact ⟨.ref s.heap.objs.size, _, d_write (t' := tk') I2 (by rw [e]; exact True.intro) hs ⟨ob, hq⟩ (ndO_ok ⟨z1, (by show 1 ≤ sizeLine; decide), ob, es, ep, hq, h2, h3, h4, h5⟩), rfl, q3 _ ⟨_, upd_same, rr.mono t⟩⟩
end
section
variable {X : Cx}
def rLenN (P : Program) (w : World) : List V → Hp → VK → Prop := fun xs H Q => ∃ (d : Addr) (ks : List NestedKey), xs = [.ref d] ∧ NdAt P w H d ks ∧ Q (.int ks.length) H
theorem call_lenN : CallR X (.builtin "len") (rLenN X.prog X.w) := by
  intro pins s σ H xs us Q I r h
  obtain ⟨p, ks, rfl, ⟨ys, e, rel⟩, q⟩ := h
  obtain ⟨u, rfl, rx⟩ := vals1 r
  obtain rfl : u = .ref p := rx
  obtain ⟨z1, z2, dd⟩ := nd_raw I e rel
  have hl : ys.length = ks.length := rel.len
  refine call_len_dictH z1 dd (by rw [sizeLine_eq] at z2; omega) ?_
  rw [hl]
  exact ⟨.int ((ks.length : Nat) : Int), H, I.tok _, ⟨_, rfl⟩, q⟩
theorem kyT_reads {pins : List (Addr × Obj)} {σ : L2.St} {H : Hp} {s : Shared} (I : Inv X pins σ H s) : ∀ {k : NestedKey} {v : V} {u : Value}, KyT H k v → RelV v u → Reads s.heap u k.data [] := by
  intro k
  exact NestedKey.rec (motive_1 := fun k => ∀ {v : V} {u : Value}, KyT H k v → RelV v u → Reads s.heap u k.data []) (motive_2 := fun ks => ∀ {vs : List V} {us : List Value}, KyTs H ks vs → Vals vs us → ReadsAll s.heap us (NestedKey.datas ks) [])
    (fun {v u} h => by cases h) (fun i {v u} h r => by cases h; obtain ⟨t, rfl⟩ := r; exact .int i t) (fun x {v u} h => by cases h)
    (fun ks ih {v u} h r => by
      cases h with
      | tup e q =>
        cases r
        obtain ⟨z, its, rv, ob, ho, hc, n, hd⟩ := I.hok _ _ e
        exact .tuple ho hc hd (by simpa using ih q rv))
    (fun {vs us} h r => by cases h; cases r; exact .nil)
    (fun k ks ih1 ih2 {vs us} h r => by
      cases h with
      | cons a b => cases r with
        | cons r1 r2 => exact ReadsAll.cons (as := []) (bs := []) (ih1 a r1) (ih2 b r2)) k
open PySem.W in
theorem list_sort_few {prog : Program} {w : World} {A : Around} {E : Value → Shared → Prop} {s : Shared} {β : Type} {vs : List Value} {bs : List β} {enc : β → PyData} {R : Value → β → Prop} {a : Addr} {n : Nat} {Q : Value → Shared → Prop}
    (ho : s.heap.get? a = some (seqObj "list" vs.toArray n)) (e : EachIs R vs bs) (er : EachIs (fun v b => ∃ as, Reads s.heap v (enc b) as ∧ a ∉ as) vs bs) (hal : AllAlike (bs.map enc)) (hk : bs.length ≤ 1) (hne : ∀ b ∈ bs, enc b ≠ .none)
    (hu : ∀ b, b ∈ bs → A.units + 1 + (enc b).depth < cLine) (h : ∀ out, out.length = bs.length → EachIs R out (bs.mergeSort (dataLe false enc)) → Q .none { s with heap := sortedHeap s.heap a vs (List.toArray out) }) :
    wpAny (model prog w) A (call (.builtin "list.sort") [.ref a]) Q E s := by
  have er' : EachIs (fun v b => ∃ as, Reads (sortingHeap s.heap a vs) v (enc b) as) vs bs := each_keepBut (h' := sortingHeap s.heap a vs) (fun _ _ hb q => sortingHeap_old hb q) (fun o q => by rw [ho] at q; rw [← Option.some.inj q]) hal er
  have each := each_map (R := fun v d => ∃ as, Reads (sortingHeap s.heap a vs) v d as) enc er'
  have hlen := e.length
  have S : SortsAt prog w A.in1 { s with heap := sortingHeap s.heap a vs } (dataKind (sortingHeap s.heap a vs) (bs.map enc)) vs := by
    refine ⟨fun v hv => ?_, PyProof.Rows.general', fun E x y a b Q ha hb hq => ?_, fun h2 => absurd h2 (by omega)⟩
    · obtain ⟨d, hd, as, r⟩ := each.left v hv
      exact ⟨_, dataKind_some hal hd r⟩
    · obtain ⟨d, as, hd, ra, rfl⟩ := dataKind_inv ha
      obtain ⟨d', as', hd', rb, rfl⟩ := dataKind_inv hb
      obtain ⟨z, hz, rfl⟩ := List.mem_map.mp hd
      have hu1 := hu z hz
      show wpAny _ _ (PyProof.Rows.oneLt' false x y) _ _ _
      exact oneLt_alike (fun q => nomatch q) ra rb (hal _ hd _ hd') (hne z hz) (by show A.units + 1 + _ < cLine; omega) hq
  refine wpAny_call_entry slot_list_sort ⟨_, ho, rfl⟩ entry_list_sort (list_sort_vals (κ := dataKind (sortingHeap s.heap a vs) (bs.map enc)) ho S (by rw [hlen, sizeLine_eq]; omega) ⟨.none, rfl, ?_⟩) (args_list_sort _)
  exact h _ (by rw [sortVals_length false rfl]; exact hlen) (sortVals_data false e er' hal)
def KeysOk (ks : List NestedKey) : Prop := PySem.W.AllAlike (ks.map NestedKey.data) ∧ (PySem.W.Sortable (ks.map NestedKey.data) ∨ (ks.length ≤ 1 ∧ ∀ k ∈ ks, k.data ≠ .none)) ∧ ∀ k ∈ ks, k.depth ≤ 8
abbrev keyLe : NestedKey → NestedKey → Bool := PySem.W.dataLe false NestedKey.data
theorem data_depth : ∀ k : NestedKey, k.data.depth = k.depth := fun k =>
  NestedKey.rec (motive_1 := fun k => k.data.depth = k.depth) (motive_2 := fun ks => PyData.depthAll (NestedKey.datas ks) = NestedKey.depthAll ks) rfl (fun _ => rfl) (fun _ => rfl)
    (fun ks ih => by simp only [NestedKey.data, NestedKey.depth, PyData.depth, ih]) rfl (fun k ks h1 h2 => by simp only [NestedKey.datas, NestedKey.depthAll, PyData.depthAll, h1, h2]) k
abbrev RefsOf (H : Hp) : List NestedKey → List Addr → Prop := Paired fun k a => KyT H k (.ref a)
theorem refs_vals : ∀ (as : List Addr), Vals (as.map V.ref) (as.map Value.ref)
  | [] => .nil
  | a :: as => .cons rfl (refs_vals as)
theorem sort_tail {pins : List (Addr × Obj)} {σ : L2.St} {H : Hp} {s1 : Shared} {E : Value → Shared → Prop} {Q : VK} (I : Inv X pins σ H s1) {ks : List NestedKey} {as : List Addr} (hp : RefsOf H ks as) (ok : KeysOk ks) (hL : ks.length ≤ 100000) (hu : X.A.units + 64 < cLine)
    (h : ∀ p as', H p = none → RefsOf H (ks.mergeSort keyLe) as' → Q (.ref p) (upd H p (.lst (as'.map V.ref)))) :
    wpAny (model X.prog X.w) X.A.in1 (newList (as.map Value.ref)) (fun l s2 => wpAny (model X.prog X.w) X.A.in1 (call (.builtin "list.sort") [l]) (fun _ s3 => EP X pins σ Q l s3) E s2) E s1 := by
  have hl : ks.length = as.length := Paired.length hp
  have hz : (as.map Value.ref).length ≤ sizeLine := by rw [List.length_map, ← hl, sizeLine_eq]; omega
  refine wpAny_newList ?_ hz
  have hn : H s1.heap.objs.size = none := I.hok.fresh (Nat.le_refl _)
  have hoL : (s1.heap.push (seqObj "list" (as.map Value.ref).toArray 0)).get? s1.heap.objs.size = some (seqObj "list" (as.map Value.ref).toArray 0) := Heap.get?_push_size _ rfl
  have I2 : Inv X pins σ H { s1 with heap := s1.heap.push (seqObj "list" (as.map Value.ref).toArray 0) } := I.kept (t' := s1.toks) fun b o e => Heap.get?_push_of_some _ e
  have e0 : ∀ {ks : List NestedKey} {as : List Addr}, RefsOf H ks as → PySem.W.EachIs (fun v k => ∃ a, v = Value.ref a ∧ KyT H k (.ref a)) (as.map Value.ref) ks := by
    intro ks as r
    induction r with
    | nil => exact .nil
    | cons z t ih => exact .cons ⟨_, rfl, z⟩ ih
  have er : ∀ {ks0 : List NestedKey} {as0 : List Addr}, RefsOf H ks0 as0 → PySem.W.EachIs (fun v k => ∃ bs, Reads (s1.heap.push (seqObj "list" (as.map Value.ref).toArray 0)) v k.data bs ∧ s1.heap.objs.size ∉ bs) (as0.map Value.ref) ks0 := by
    intro ks0 as0 r
    induction r with
    | nil => exact .nil
    | cons z t ih => exact .cons ⟨[], kyT_reads I2 z rfl, List.not_mem_nil⟩ ih
  have hdeep : ∀ k ∈ ks, X.A.in1.units + 1 + (NestedKey.data k).depth < cLine := fun k hk => by
    have := ok.2.2 k hk
    have d := data_depth k
    show X.A.units + 1 + 1 + _ < cLine
    omega
  have fin : ∀ out : List Value, out.length = ks.length → PySem.W.EachIs (fun v k => ∃ a, v = Value.ref a ∧ KyT H k (.ref a)) out (ks.mergeSort keyLe) →
      EP X pins σ Q (.ref s1.heap.objs.size) { s1 with heap := sortedHeap (s1.heap.push (seqObj "list" (as.map Value.ref).toArray 0)) s1.heap.objs.size (as.map Value.ref) out.toArray } := by
    intro out hlen eo
    have back : ∀ {out : List Value} {ks0 : List NestedKey}, PySem.W.EachIs (fun v k => ∃ a, v = Value.ref a ∧ KyT H k (.ref a)) out ks0 → ∃ as', out = as'.map Value.ref ∧ RefsOf H ks0 as' := by
      intro out ks0 r
      induction r with
      | nil => exact ⟨[], rfl, .nil⟩
      | cons z t ih =>
        obtain ⟨a, rfl, ka⟩ := z
        obtain ⟨as', rfl, ra⟩ := ih
        exact ⟨a :: as', rfl, .cons ka ra⟩
    obtain ⟨as', eout, ra⟩ := back eo
    obtain ⟨c, hc⟩ := PyProof.Rows.sortedHeap_at (vs := as.map Value.ref) (out := out.toArray) hoL
    have hlen2 : (as'.map V.ref).length ≤ sizeLine := by
      have e1 : out.length = as'.length := by rw [eout, List.length_map]
      rw [List.length_map, ← e1, hlen, sizeLine_eq]; omega
    refine ⟨.ref s1.heap.objs.size, _, I.laid (t' := s1.toks) (o := .lst (as'.map V.ref)) (fun b u e => ?_) (Nat.le_refl _) ⟨hlen2, out, c, by rw [eout]; exact refs_vals as', hc⟩, rfl, h _ as' hn ra⟩
    have hlt := Heap.lt_size e
    rw [PyProof.Rows.sortedHeap_old (Nat.ne_of_lt hlt) (by rw [PyProof.Rows.size_push']; exact Nat.lt_succ_of_lt hlt)]
    exact Heap.get?_push_of_some _ e
  rcases ok.2.1 with hs | ⟨h1, hne⟩
  · exact PySem.W.list_sort_data (R := fun v k => ∃ a, v = Value.ref a ∧ KyT H k (.ref a)) (s := { s1 with heap := s1.heap.push (seqObj "list" (as.map Value.ref).toArray 0) }) hoL (e0 hp) (er hp) ok.1 hs (by rw [sizeLine_eq]; omega) hdeep fin
  · exact list_sort_few (R := fun v k => ∃ a, v = Value.ref a ∧ KyT H k (.ref a)) (s := { s1 with heap := s1.heap.push (seqObj "list" (as.map Value.ref).toArray 0) }) hoL (e0 hp) (er hp) ok.1 h1 hne hdeep fin
def rSortedN (P : Program) (w : World) : List V → Hp → VK → Prop := fun vs H Q => ∃ (d : Addr) (ks : List NestedKey), vs = [.ref d] ∧ NdAt P w H d ks ∧ KeysOk ks ∧ ks.length ≤ 100000 ∧
  ∀ p as, H p = none → RefsOf H (ks.mergeSort keyLe) as → Q (.ref p) (upd H p (.lst (as.map V.ref)))
theorem cr_sortedN (hc : X.calm = true) (hu : X.A.units + 64 < cLine) : CallR X (.builtin "sorted") (rSortedN X.prog X.w) := by
  intro pins s σ H vs us Q I r h
  obtain ⟨d, ks, rfl, ⟨xs, e, rel⟩, ok, hL, q⟩ := h
  obtain ⟨u, rfl, rx⟩ := vals1 r
  obtain rfl : u = .ref d := rx
  obtain ⟨z1, z2, dd⟩ := nd_raw I e rel
  obtain ⟨es, ep, raw, hsz, hes⟩ := dd.raw
  refine Calls.call_function_entry PyProof.Rows.kind_sorted PyProof.Rows.plain_sorted PyProof.Rows.entry_sorted (PyProof.Rows.args_sorted1 _) ?_
  unfold Builtin.«sorted»
  refine wpAny_bind (m := checkCount "sorted" 1 1 _) (wpAny_pure ?_)
  refine wpAny_bind (PySem.W.kdu_collect (A := X.A.in1) (KdlSrc.rawDict (es := es) (ep := ep) z1) (I.ok.hd hc) raw (by rw [hsz]; exact z2) fun h' tk acc hk hacc => ?_)
  have I1 : Inv X pins σ H { s with heap := h', toks := tk } := I.kept hk
  have hall : acc.toList = (xs.map fun q => q.2.1).map Value.ref := by
    refine List.ext_getElem? fun i => ?_
    by_cases hi : i < es.size
    · obtain ⟨y, hy, hy1, _⟩ := hes i hi
      have h1 : i < acc.size := by rw [hacc.1]; exact hi
      obtain ⟨hi', hv⟩ := hacc.2 i acc[i] (by simp [h1])
      rw [List.getElem?_map, List.getElem?_map, hy, Array.getElem?_toList, Array.getElem?_eq_getElem h1, hv, hy1] <;> rfl
    · have h1 : ¬ i < acc.size := by rw [hacc.1]; exact hi
      have n1 : xs[i]? = none := List.getElem?_eq_none_iff.mpr (by omega)
      have n2 : acc.toList[i]? = none := List.getElem?_eq_none_iff.mpr (by rw [Array.length_toList]; omega)
      rw [List.getElem?_map, List.getElem?_map, n1, n2] <;> rfl
  have hrefs : RefsOf H ks (xs.map fun q => q.2.1) := by
    have go : ∀ {ks : List NestedKey} {xs : List (NestedKey × Addr × Value)}, NdRel H ks xs → RefsOf H ks (xs.map fun q => q.2.1) := by
      intro ks xs r
      induction r with
      | nil => exact .nil
      | cons z t ih => exact .cons z.2.2 ih
    exact go rel
  rw [hall]
  refine wpAny_bind (thn (sort_tail I1 hrefs ok hL hu q) fun l s2 h2 => ?_)
  refine wpAny_bind (wpAny_holding (thn h2 fun _ s3 h3 => ?_))
  exact wpAny_pure ⟨_, rfl, h3⟩
end
end K54
set_option Elab.async false
set_option linter.all false
set_option maxRecDepth 100000
set_option maxHeartbeats 4000000
set_option pp.maxSteps 800
namespace K54
open PySem PySem.Spec PyProof.Rows L2
mutual
def numk : NestedKey → Bool
  | .num _ => true
  | .tup ks => numks ks
  | _ => false
def numks : List NestedKey → Bool
  | [] => true
  | k :: ks => numk k && numks ks
end
section
variable {P : Program} {w : World}
def PlainV (P : Program) (w : World) (n : Nat) (s : Shared) (v : Value) : Prop := ∀ (A : Around) (E : Value → Shared → Prop),
  (∀ Q : Bool → Shared → Prop, Q false s → wpAny (model P w) A (ofAClassStatement n v) Q E s) ∧ ∀ Q : Bool → Shared → Prop, Q true s → wpAny (model P w) A (hashByValue n v) Q E s
theorem plain_tup {n : Nat} {s : Shared} {a : Addr} {o : Obj} {vs : Array Value} {m : Nat} (ho : s.heap.get? a = some o) (hc : o.cls = .type "tuple") (hd : o.data = .seq vs m) (hv : ∀ v ∈ vs.toList, PlainV P w n s v) : PlainV P w (n + 1) s (.ref a) := by
  have hT : s.TypeIs (.ref a) "tuple" := ⟨o, ho, hc⟩
  intro A E
  constructor
  · intro Q q
    unfold ofAClassStatement
    refine wpAny_bind (wpAny_typeOf hT ?_)
    dsimp only
    have e : (("tuple" : String) == "tuple") = true := by decide
    simp only [e, if_true, Bool.not_true, Bool.false_eq_true, if_false]
    try refine wpAny_bind (wpAny_pure ?_)
    try simp only [Bool.not_true, Bool.false_eq_true, if_false]
    show wpAny _ _ (seqItems? (.ref a) >>= _) _ _ s
    refine wpAny_bind (wpAny_seqItems ho hd ?_)
    dsimp only
    refine wpAny_bind ?_
    show wpAny _ _ (forIn vs _ _) _ _ s
    rw [← Array.forIn_toList]
    refine wpAny_forIn_list _ (fun rest r s' => r.1 = none ∧ s' = s ∧ ∀ v ∈ rest, PlainV P w n s v) _ ?_ ?_ _ _ ⟨rfl, rfl, hv⟩
    · rintro v rest r s' ⟨hr, rfl, hall⟩
      refine wpAny_bind ((hall v List.mem_cons_self A E).1 _ ?_)
      simp only [Bool.false_eq_true, if_false]
      exact wpAny_pure ⟨rfl, rfl, fun u hu' => hall u (List.mem_cons_of_mem _ hu')⟩
    · rintro ⟨r1, r2⟩ s' ⟨hr, rfl, _⟩
      simp only at hr
      subst hr
      exact wpAny_pure q
  · intro Q q
    unfold hashByValue
    refine wpAny_bind (wpAny_specialOf hT F.slot_tuple_hash.lookup ?_)
    show wpAny _ _ (seqItems? (.ref a) >>= _) _ _ s
    refine wpAny_bind (wpAny_seqItems ho hd ?_)
    refine wpAny_bind ?_
    show wpAny _ _ (forIn vs _ _) _ _ s
    rw [← Array.forIn_toList]
    refine wpAny_forIn_list _ (fun rest r s' => r.1 = none ∧ s' = s ∧ ∀ v ∈ rest, PlainV P w n s v) _ ?_ ?_ _ _ ⟨rfl, rfl, hv⟩
    · rintro v rest r s' ⟨hr, rfl, hall⟩
      refine wpAny_bind ((hall v List.mem_cons_self A E).2 _ ?_)
      simp only [Bool.not_true, Bool.false_eq_true, if_false]
      exact wpAny_pure ⟨rfl, rfl, fun u hu' => hall u (List.mem_cons_of_mem _ hu')⟩
    · rintro ⟨r1, r2⟩ s' ⟨hr, rfl, _⟩
      simp only at hr
      subst hr
      exact wpAny_pure q
mutual
theorem plain_key : ∀ (k : NestedKey) (v : Value) (n : Nat) (s : Shared), numk k = true → NestedIs s.heap k v → k.depth ≤ n → PlainV P w n s v
  | .num i, v, n, s, _, h, _ => by
    intro A E
    cases h with
    | bool e => exact ⟨fun Q q => by cases n <;> exact wpAny_pure q, fun Q q => by cases n <;> exact wpAny_pure q⟩
    | int _ t => exact ⟨fun Q q => by cases n <;> exact wpAny_pure q, fun Q q => by cases n <;> exact wpAny_pure q⟩
  | .tup ks, v, n, s, hn, h, hd => by
    cases h with
    | @tup a o vs m _ ho hc hdat hall =>
      cases n with
      | zero => exact absurd hd (by simp [NestedKey.depth])
      | succ n => exact plain_tup ho hc hdat (plain_keys ks vs.toList n s hn hall (by simpa [NestedKey.depth] using hd))
  | .none, _, _, _, hn, _, _ => nomatch hn
  | .text _, _, _, _, hn, _, _ => nomatch hn
theorem plain_keys : ∀ (ks : List NestedKey) (vs : List Value) (n : Nat) (s : Shared), numks ks = true → NestedAll s.heap ks vs → NestedKey.depthAll ks ≤ n → ∀ v ∈ vs, PlainV P w n s v
  | [], vs, n, s, _, h, _, v, hv => by
    cases h
    cases hv
  | k :: ks, vs, n, s, hn, h, hd, v, hv => by
    have hn' : numk k = true ∧ numks ks = true := Bool.and_eq_true_iff.mp hn
    cases h with
    | @cons _ v0 _ vs0 h1 h2 =>
      have hd' : k.depth ≤ n ∧ NestedKey.depthAll ks ≤ n := by
        simp only [NestedKey.depthAll] at hd
        omega
      rcases List.mem_cons.mp hv with e | hv'
      · rw [e]
        exact plain_key k v0 n s hn'.1 h1 hd'.1
      · exact plain_keys ks vs0 n s hn'.2 h2 hd'.2 v hv'
end
end
structure KeyAt (h : Heap) (k : NestedKey) (a : Addr) : Prop where
  is : NestedIs h k (.ref a)
  deep : k.depth ≤ 8
  num : numk k = true
section
variable {P : Program} {w : World} {A : Around} {E : Value → Shared → Prop} {s : Shared}
theorem KeyAt.kind {h : Heap} {k : NestedKey} {a : Addr} (x : KeyAt h k a) : (nestedKind P w).is h k a := ⟨x.is, x.deep⟩
theorem KeyAt.keep {h h' : Heap} {k : NestedKey} {a : Addr} (x : KeyAt h k a) (hk : ∀ c o, h.get? c = some o → h'.get? c = some o) : KeyAt h' k a := ⟨NestedIs.at (fun b o _ _ e _ => hk b o e) k _ x.is, x.deep, x.num⟩
theorem KeyAt.same {h h' : Heap} {k : NestedKey} {a b : Addr} {o : Obj} {es : Array (Int × Value)} {ep : Nat} {t : SetTable} (hb : KeyAt h k b) (ho : h.get? a = some o) (hd : o.data = .set es ep t) (hs : Heap.SameBut a h h') : KeyAt h' k b := by
  refine ⟨NestedIs.at (fun c oc vs n e q => (hs.2 c fun z => ?_).trans e) k _ hb.is, hb.deep, hb.num⟩
  subst z
  obtain rfl : oc = o := Option.some.inj (e.symm.trans ho)
  rw [hd] at q
  cases q
theorem KeyAt.uniq {h : Heap} {k k' : NestedKey} {a : Addr} (x : KeyAt h k a) (y : KeyAt h k' a) : k = k' := NestedIs.inj _ _ _ x.is y.is
theorem seen_key {k : NestedKey} {b : Addr} {Q : Bool → Shared → Prop} (hk : KeyAt s.heap k b) {ys : List Value} (hy : ∀ y ∈ ys, ∃ k' c, y = Value.ref c ∧ KeyAt s.heap k' c) (h : Q false s) :
    wpAny (model P w) A (searchCouldBeSeen (.ref b) ys) Q E s := by
  have pl : ∀ {k' : NestedKey} {c : Addr}, KeyAt s.heap k' c → PlainV P w 8 s (.ref c) := fun {k' c} q => plain_key k' _ 8 s q.num q.is q.deep
  unfold searchCouldBeSeen
  refine wpAny_bind ?_
  refine wpAny_forIn_list _ (fun rest r s' => r.1 = none ∧ s' = s ∧ ∀ y ∈ rest, ∃ k' c, y = Value.ref c ∧ KeyAt s.heap k' c) _ ?_ ?_ _ _ ⟨rfl, rfl, hy⟩
  · rintro v rest r s' ⟨hr, rfl, hall⟩
    obtain ⟨k', c, rfl, hc⟩ := hall v List.mem_cons_self
    have rest' : ∀ y ∈ rest, ∃ k' c, y = Value.ref c ∧ KeyAt s'.heap k' c := fun u hu' => hall u (List.mem_cons_of_mem _ hu')
    dsimp only
    by_cases hv : (b == c || (carriedByValue (.ref b) && carriedByValue (.ref c))) = true
    · exact wp_if_pos hv (wpAny_pure ⟨rfl, rfl, rest'⟩)
    · refine wp_if_neg hv (wpAny_bind ((nestedKind P w).quiet hk.kind ?_))
      simp only [Bool.not_true, Bool.false_eq_true, if_false]
      refine wpAny_bind ((nestedKind P w).quiet hc.kind ?_)
      simp only [Bool.not_true, Bool.false_eq_true, if_false]
      refine wpAny_bind ((pl hk A E).1 _ ?_)
      simp only [Bool.false_eq_true, if_false]
      refine wpAny_bind ((pl hc A E).1 _ ?_)
      simp only [Bool.false_eq_true, if_false]
      exact wpAny_pure ⟨rfl, rfl, rest'⟩
  · rintro ⟨r1, r2⟩ s' ⟨hr, rfl, _⟩
    simp only at hr
    subst hr
    exact wpAny_pure h
end
end K54
set_option Elab.async false
set_option linter.all false
set_option maxRecDepth 100000
set_option maxHeartbeats 4000000
set_option pp.maxSteps 800
namespace K54
open PySem PySem.Spec PyProof.Rows L2
abbrev KL := List (Addr × NestedKey)
def hashesOf (w : World) (L : KL) : List Int := L.map fun p => p.2.hash w
def entriesOf (w : World) (L : KL) : List (Int × Value) := L.map fun p => (p.2.hash w, Value.ref p.1)
abbrev stand (t : SetTable) (h : Int) (c : Nat) : SetTable.Probe := nth t.mask (runAt t.mask (SetTable.bits h % (t.mask + 1)) (SetTable.bits h)) c
structure NSet (w : World) (h : Heap) (a : Addr) (L : KL) (es : Array (Int × Value)) (t : SetTable) : Prop where
  ob : ∃ o ep, h.get? a = some o ∧ o.ExactSet ∧ o.data = .set es ep t
  rows : es.toList = entriesOf w L
  tab : TabOk t (hashesOf w L)
  nd : (L.map (·.2)).Nodup
  keys : ∀ p ∈ L, KeyAt h p.2 p.1
  plain : t.plain = true
  led : w.params.followText "set-order" = true ∨ t.led = true
  room : L.length * 5 < t.mask * 3
  few : L.length < 64
section
variable {P : Program} {w : World} {A : Around} {E : Value → Shared → Prop} {s : Shared} {a : Addr} {L : KL} {es : Array (Int × Value)} {t : SetTable}
theorem entries_size {es : Array (Int × Value)} (h : es.toList = entriesOf w L) : es.size = L.length := by
  have := congrArg List.length h
  simpa [entriesOf] using this
theorem entries_at {es : Array (Int × Value)} (h : es.toList = entriesOf w L) {i : Nat} {p : Addr × NestedKey} (e : L[i]? = some p) : es[i]? = some (p.2.hash w, Value.ref p.1) := by
  rw [← Array.getElem?_toList, h]
  unfold entriesOf
  rw [List.getElem?_map, e] <;> rfl
theorem fits_of {t : SetTable} {n : Nat} (h1 : t.dummies = #[]) (h2 : t.place.size = n) (h3 : n ≤ t.mask) : t.fits n = true := by
  unfold SetTable.fits SetTable.fill
  rw [h1, Bool.and_eq_true, beq_iff_eq, decide_eq_true_eq]
  show t.place.size = n ∧ t.place.size + 0 ≤ t.mask
  omega
theorem NSet.fits (R : NSet w s.heap a L es t) : t.fits es.size = true := by
  have h1 := R.tab.sz
  have h2 := entries_size R.rows
  have h3 := R.room
  have h4 : (hashesOf w L).length = L.length := List.length_map ..
  exact fits_of R.tab.dm (by omega) (by omega)
theorem NSet.gw (R : NSet w s.heap a L es t) : ¬ t.gaveWay = true := by
  unfold SetTable.gaveWay
  rw [mask_odd R.tab.mok]
  decide
theorem nth_clean (m : Nat) : ∀ (n : Nat) (p : SetTable.Probe), p.dummy = none → (nth m p n).dummy = none
  | 0, _, h => h
  | n + 1, p, h => nth_clean m n (adv m p) (by
    unfold adv
    split <;> exact h)
theorem nset_search (R : NSet w s.heap a L es t) {x : Addr} {k : NestedKey} (hx : KeyAt s.heap k x) (hu : A.units + 8 < cLine) {K : Nat} (hKf : K < 10 * SetTable.turns t.mask)
    (hK : way t.mask (k.hash w) K ∉ t.place.toList) (hKb : ∀ c, c < K → way t.mask (k.hash w) c ∈ t.place.toList) {Q : SetFound → Shared → Prop}
    (hin : k ∈ L.map (·.2) → Q (.there none) s) (hout : k ∉ L.map (·.2) → Q (.free (way t.mask (k.hash w) K) false) s) :
    ∀ (f c : Nat) (st : Option SetTable.Probe), st.getD (t.probeStart (k.hash w)) = stand t (k.hash w) c → c ≤ K → K - c < f →
      (∀ (i : Nat) p, L[i]? = some p → p.2 = k → ∃ c', c ≤ c' ∧ c' < K ∧ t.place.toList[i]? = some (way t.mask (k.hash w) c')) →
      wpAny (model P w) A (setSearchFrom a (.ref x) (k.hash w) true f st) Q E s
  | 0, _, _, _, _, hf, _ => absurd hf (Nat.not_lt_zero _)
  | f + 1, c, st, hst, hc, hf, hre => by
    obtain ⟨o, ep, ho, hex, hd⟩ := R.ob
    rw [setSearchFrom_succ]
    refine wpAny_bind (wpAny_setState_of ho hd R.fits ?_)
    dsimp only
    refine wp_if_neg R.gw ?_
    try refine wpAny_bind (wpAny_pure ?_)
    have sh : ∀ q, nth t.mask (stand t (k.hash w) c) q = stand t (k.hash w) (c + q) := fun q => (nth_add t.mask c _ q).symm
    have e1 : ∀ q, (nth t.mask (stand t (k.hash w) c) q).j = way t.mask (k.hash w) (c + q) := fun q => congrArg SetTable.Probe.j (sh q)
    have hashAt : ∀ (i : Nat) p, L[i]? = some p → (es[i]?.map (·.1)).getD 0 = p.2.hash w := fun i p hp => by
      rw [entries_at R.rows hp] <;> rfl
    rcases go_spec t R.tab.ris R.tab.dm (fun i => (es[i]?.map (·.1)).getD 0) (k.hash w) (10 * SetTable.turns t.mask) (K - c) _ (nth_clean _ c _ rfl) (by omega)
      (fun q hq => by rw [e1]; exact hKb (c + q) (by omega)) (by rw [e1, show c + (K - c) = K by omega]; exact hK) with ⟨q, i, hq, hi, hh, hno, hpr⟩ | ⟨hno, hpr⟩
    · have hpr' : t.probe (fun i => (es[i]?.map (·.1)).getD 0) (k.hash w) (st.getD (t.probeStart (k.hash w))) = some (.candidate (way t.mask (k.hash w) (c + q)) i (stand t (k.hash w) (c + (q + 1)))) := by
        rw [hst, ← e1, ← sh]
        exact hpr
      rw [hpr']
      dsimp only
      rw [e1] at hi
      have hil : i < L.length := by
        have h1 : i < t.place.toList.length := (List.getElem?_eq_some_iff.mp hi).1
        have h2 := R.tab.sz
        have h3 : (hashesOf w L).length = L.length := List.length_map ..
        rw [Array.length_toList] at h1
        omega
      obtain ⟨p, hp⟩ : ∃ p, L[i]? = some p := ⟨_, List.getElem?_eq_getElem hil⟩
      have hmem : p ∈ L := List.mem_of_getElem? hp
      have rest : wpAny (model P w) A (searchRest a (.ref x) (k.hash w) true f es t (way t.mask (k.hash w) (c + q)) i (stand t (k.hash w) (c + (q + 1)))) Q E s := by
        unfold searchRest
        rw [entries_at R.rows hp]
        dsimp only
        refine wpAny_bind (wpAny_holding ((nestedKind P w).eqBool hu (R.keys p hmem).kind hx.kind ?_))
        refine wpAny_bind (wpAny_setState_of ho hd R.fits ?_)
        dsimp only
        by_cases hkk : p.2 = k
        · refine wp_if_pos (by simp [hkk]) ?_
          exact wpAny_pure (hin (List.mem_map.mpr ⟨p, hmem, hkk⟩))
        · refine wp_if_neg (by simp [hkk]) ?_
          try refine wpAny_bind (wpAny_pure ?_)
          rw [sameMem]
          dsimp only
          have hsl : t.slot (way t.mask (k.hash w) (c + q)) = .live i := slot_live R.tab.ris hi
          simp only [if_true, hsl, entries_at R.rows hp]
          refine wpAny_bind (wpAny_isSame_ref_self (wpAny_bind (wpAny_pure ?_)))
          simp only [if_true]
          refine wp_if_neg (by simp [hkk]) ?_
          refine nset_search R hx hu hKf hK hKb hin hout f (c + (q + 1)) _ rfl (by omega) (by omega) fun i0 p0 h0 hk0 => ?_
          obtain ⟨c', a1, a2, a3⟩ := hre i0 p0 h0 hk0
          refine ⟨c', ?_, a2, a3⟩
          rcases Nat.lt_trichotomy c' (c + q) with z | z | z
          · exact absurd ((hashAt i0 p0 h0).trans (congrArg (fun z => NestedKey.hash w z) hk0)) (hno (c' - c) i0 (by omega) (by rw [e1, show c + (c' - c) = c' by omega]; exact a3))
          · rw [z] at a3
            have s0 := slot_live R.tab.ris a3
            rw [hsl] at s0
            injection s0 with s0
            rw [← s0, hp] at h0
            exact absurd ((congrArg Prod.snd (Option.some.inj h0)).trans hk0) hkk
          · omega
      by_cases hl : t.led = true
      · refine wp_if_neg (by simp [hl]) ?_
        try refine wpAny_bind (wpAny_pure ?_)
        exact rest
      · refine wp_if_pos (by simp [hl]) (wpAny_bind (seen_key hx (fun y hy => ?_) ?_))
        · obtain ⟨e, he, ee⟩ := List.mem_map.mp hy
          have he2 : e ∈ es.toList := by simpa using (show e ∈ es ∧ e.1 = k.hash w by simpa using he).1
          rw [R.rows] at he2
          obtain ⟨p2, hp2, e2⟩ := List.mem_map.mp he2
          exact ⟨p2.2, p2.1, by rw [← ee, ← e2], R.keys p2 hp2⟩
        · refine wp_if_neg (by decide) ?_
          try refine wpAny_bind (wpAny_pure ?_)
          exact rest
    · have hpr' : t.probe (fun i => (es[i]?.map (·.1)).getD 0) (k.hash w) (st.getD (t.probeStart (k.hash w))) = some (.empty (way t.mask (k.hash w) K) none) := by
        have e2 : way t.mask (k.hash w) K = (nth t.mask (stand t (k.hash w) c) (K - c)).j := by
          rw [e1, show c + (K - c) = K by omega]
        rw [hst, e2]
        exact hpr
      rw [hpr']
      dsimp only
      refine wpAny_pure (hout fun hm => ?_)
      obtain ⟨p0, h0, hk0⟩ := List.mem_map.mp hm
      obtain ⟨i0, hi0, e0⟩ := List.getElem_of_mem h0
      have h00 : L[i0]? = some p0 := by rw [List.getElem?_eq_getElem hi0, e0]
      obtain ⟨c', a1, a2, a3⟩ := hre i0 p0 h00 hk0
      exact hno (c' - c) i0 (by omega) (by rw [e1, show c + (c' - c) = c' by omega]; exact a3) ((hashAt i0 p0 h00).trans (congrArg (fun z => NestedKey.hash w z) hk0))
theorem nset_find (R : NSet w s.heap a L es t) {x : Addr} {k : NestedKey} (hx : KeyAt s.heap k x) (hu : A.units + 8 < cLine) {Q : SetFound → Shared → Prop} (hin : k ∈ L.map (·.2) → Q (.there none) s)
    (hout : ∀ K, k ∉ L.map (·.2) → way t.mask (k.hash w) K ∉ t.place.toList → (∀ c, c < K → way t.mask (k.hash w) c ∈ t.place.toList) → Q (.free (way t.mask (k.hash w) K) false) s) :
    wpAny (model P w) A (setSearch a (.ref x) (k.hash w) true) Q E s := by
  have hroom := R.room
  have hlen : (hashesOf w L).length = L.length := List.length_map ..
  obtain ⟨K, hKf, hK, hKb⟩ := R.tab.first (by omega) (k.hash w)
  have hbig : K < 100000 := by
    have : 10 * SetTable.turns t.mask ≤ 1420 := by
      unfold SetTable.turns
      rcases R.tab.mok with e | e | e <;> omega
    omega
  unfold setSearch
  refine nset_search R hx hu hKf hK hKb hin (fun hn => hout K hn hK hKb) 100000 0 none rfl (Nat.zero_le _) (by omega) fun i p hp hk => ?_
  have hi : (hashesOf w L)[i]? = some (k.hash w) := by
    unfold hashesOf
    rw [List.getElem?_map, hp, ← hk] <;> rfl
  have hil : i < t.place.toList.length := by
    have h1 : i < L.length := (List.getElem?_eq_some_iff.mp hp).1
    have h2 := R.tab.sz
    rw [Array.length_toList]
    omega
  have hj := List.getElem?_eq_getElem hil
  obtain ⟨c, hc, e⟩ := R.tab.before hK hi hj
  exact ⟨c, Nat.zero_le _, hc, by rw [hj, e]⟩
end
end K54
set_option Elab.async false
set_option linter.all false
set_option maxRecDepth 100000
set_option maxHeartbeats 4000000
set_option pp.maxSteps 800
namespace K54
open PySem PySem.Spec PyProof.Rows L2
section
variable {P : Program} {w : World} {A : Around} {E : Value → Shared → Prop} {s : Shared} {a : Addr} {L : KL} {es : Array (Int × Value)} {t : SetTable}
theorem entries_order {order : Array Nat} (hr : es.toList = entriesOf w L) (hp : order.toList.Perm (List.range L.length)) :
    ∃ L2, (order.filterMap (es[·]?)).toList = entriesOf w L2 ∧ L2.Perm L ∧ hashesOf w L2 = order.toList.map fun i => (es.map (·.1)).getD i 0 := by
  have hsz := entries_size hr
  have hb : ∀ i ∈ order.toList, i < L.length := fun i hi => List.mem_range.mp (hp.mem_iff.mp hi)
  have pick : ∀ l : List Nat, (∀ i ∈ l, i < L.length) → l.filterMap (fun i => es[i]?) = entriesOf w (l.filterMap fun i => L[i]?) ∧ hashesOf w (l.filterMap fun i => L[i]?) = l.map fun i => (es.map (·.1)).getD i 0 := by
    intro l
    induction l with
    | nil => intro _; exact ⟨rfl, rfl⟩
    | cons i l ih =>
      intro hl
      have hi := hl i List.mem_cons_self
      obtain ⟨e1, e2⟩ := ih fun j hj => hl j (List.mem_cons_of_mem _ hj)
      have g := List.getElem?_eq_getElem hi
      have ge := entries_at hr g
      have gh : (es.map (·.1)).getD i 0 = (L[i]).2.hash w := by
        rw [Array.getD_eq_getD_getElem?, Array.getElem?_map, ge] <;> rfl
      rw [List.filterMap_cons_some ge, List.filterMap_cons_some g, e1, List.map_cons, gh]
      refine ⟨rfl, ?_⟩
      show (L[i]).2.hash w :: hashesOf w _ = _
      rw [e2]
  obtain ⟨e1, e2⟩ := pick order.toList hb
  refine ⟨_, by first | (rw [Array.toList_filterMap]; exact e1) | simpa using e1, ?_, e2⟩
  have whole : (List.range L.length).filterMap (fun i => L[i]?) = L := by
    have go : ∀ n, n ≤ L.length → (List.range n).filterMap (fun i => L[i]?) = L.take n := by
      intro n
      induction n with
      | zero => intro _; rfl
      | succ n ih =>
        intro hn
        have hlt : n < L.length := hn
        rw [List.range_succ, List.filterMap_append, ih (Nat.le_of_lt hlt), List.take_succ, List.getElem?_eq_getElem hlt, List.filterMap_cons_some (List.getElem?_eq_getElem hlt)] <;> rfl
    rw [go L.length (Nat.le_refl _), List.take_length]
  have := hp.filterMap (fun i => L[i]?)
  rw [whole] at this
  exact this
theorem nset_relay {o : Obj} {ep : Nat} (ho : s.heap.get? a = some o) (hex : o.ExactSet) (hd : o.data = .set es ep t) (hr : es.toList = entriesOf w L) (hsz : t.place.size = es.size) (hdm : t.dummies = #[]) (hfl : es.size ≤ t.mask)
    (nd : (L.map (·.2)).Nodup) (keys : ∀ p ∈ L, KeyAt s.heap p.2 p.1) (pl : t.plain = true) (ld : w.params.followText "set-order" = true ∨ t.led = true) (few : L.length < 64) {wanted M : Nat}
    (hw : SetTable.sizeAbove wanted - 1 = M) (hM : MaskOk M) (hw2 : SetTable.sizeAbove wanted ≤ 128) (hn : L.length * 5 < M * 3) {Q : Unit → Shared → Prop}
    (hQ : ∀ h' L' es' t', Heap.SameBut a s.heap h' → NSet w h' a L' es' t' → L'.Perm L → Q () { s with heap := h' }) : wpAny (model P w) A (setRelay a wanted) Q E s := by
  have hsl := entries_size hr
  obtain ⟨t', order, e, hp, T, em, el, ep', ed⟩ := relaid_ok t (hs := es.map (·.1)) (wanted := wanted) hw hM (by rw [Array.size_map, hsl]; omega)
  rw [Array.size_map, hsl] at hp
  obtain ⟨L2, r1, r2, r3⟩ := entries_order hr hp
  rw [← r3] at T
  have hs2 : (order.filterMap (es[·]?)).size = es.size := by rw [entries_size r1, r2.length_eq, hsl]
  rw [setRelay_eq]
  refine wpAny_bind (wpAny_setState_of ho hd (fits_of hdm hsz hfl) ?_)
  dsimp only
  refine wp_if_neg (by rw [sizeLine_eq]; omega) ?_
  try refine wpAny_bind (wpAny_pure ?_)
  rw [e]
  dsimp only
  refine wpAny_bind ?_
  refine wp_if_neg (by rw [hs2]; simp) ?_
  try refine wpAny_bind (wpAny_pure ?_)
  refine wpAny_pure ?_
  dsimp only
  refine wpAny_storeSet_of ho hd ?_ (by rw [hs2, hsl, sizeLine_eq]; omega)
  have sb : Heap.SameBut a s.heap (s.heap.update a (Obj.putSet (order.filterMap (es[·]?)) t')) := Heap.SameBut.update ..
  exact hQ _ L2 _ t' sb ⟨⟨_, _, store_at ho hd, ⟨hex.1, hex.2.1, hex.2.2⟩, rfl⟩, r1, T, (r2.map (·.2)).nodup_iff.mpr nd, fun p hpm => (keys p (r2.mem_iff.mp hpm)).same ho hd sb, by rw [ep']; exact pl, by rw [el]; exact ld,
    by rw [r2.length_eq, em]; exact hn, by rw [r2.length_eq]; exact few⟩ r2
theorem nset_add (R : NSet w s.heap a L es t) {x : Addr} {k : NestedKey} (hx : KeyAt s.heap k x) (hu : A.units + 8 < cLine) (hfew : L.length + 1 < 64) {Q : Bool → Shared → Prop}
    (hQ : ∀ b h' L' es' t', Heap.SameBut a s.heap h' → NSet w h' a L' es' t' → (k ∈ L.map (·.2) → L' = L) → (k ∉ L.map (·.2) → L'.Perm ((x, k) :: L)) → Q b { s with heap := h' }) :
    wpAny (model P w) A (setAddHashed a (.ref x) (k.hash w)) Q E s := by
  obtain ⟨o, ep, ho, hex, hd⟩ := R.ob
  have hsl := entries_size R.rows
  have hroom := R.room
  have hln : (hashesOf w L).length = L.length := List.length_map ..
  unfold setAddHashed
  refine wpAny_holding ?_
  rw [show (100000 : Nat) = 99999 + 1 from rfl, setAddHashedIn_succ]
  refine wpAny_bind (wpAny_setState_of ho hd R.fits ?_)
  dsimp only
  refine wp_if_neg (by simp [byScan, Value.scannable]) ?_
  try refine wpAny_bind (wpAny_pure ?_)
  refine wpAny_bind (nset_find R hx hu (fun hm => ?_) fun K hm hK hb => ?_)
  · exact wpAny_pure (hQ false s.heap L es t (Heap.SameBut.refl a s.heap) R (fun _ => rfl) fun z => absurd hm z)
  · dsimp only
    refine wpAny_bind (wpAny_setState_of ho hd R.fits ?_)
    dsimp only
    obtain ⟨q1, q2, q3, q4, q5, q6, q7, q8, q9⟩ := R.tab.put hK hb
    have hp1 : (t.put (way t.mask (k.hash w) K)).1.plain = true := by rw [q6]; exact R.plain
    generalize hpt : t.put (way t.mask (k.hash w) K) = pt at q1 q3 q4 q5 q6 q7 q8 q9 hp1 ⊢
    obtain ⟨t1, p⟩ := pt
    dsimp only at q1 q3 q4 q5 q6 q7 q8 q9 hp1 ⊢
    subst q1
    have hbv := fun Q q => (plain_key (P := P) (w := w) k _ 8 s hx.num hx.is hx.deep A E).2 Q q
    first
      | (refine wpAny_bind ?_; refine wp_if_pos hp1 ?_; refine hbv _ ?_)
      | refine wp_if_pos hp1 (wpAny_bind (hbv _ ?_))
    simp only [if_true]
    generalize hpp : SetTable.below t.place (way t.mask (k.hash w) K) = p at q2 q3 ⊢
    have hin : (SetTable.insertAt es p (k.hash w, Value.ref x)).toList = entriesOf w (L.take p ++ (x, k) :: L.drop p) := by
      rw [SetTable.toList_insertAt, R.rows]
      unfold entriesOf
      rw [List.map_append, List.map_cons, List.map_take, List.map_drop]
    have pm := put_perm L p (x, k)
    have hhs : hashesOf w (L.take p ++ (x, k) :: L.drop p) = (hashesOf w L).take p ++ k.hash w :: (hashesOf w L).drop p := by
      unfold hashesOf
      rw [List.map_append, List.map_cons, List.map_take, List.map_drop]
    rw [← hhs] at q3
    have hlen : (L.take p ++ (x, k) :: L.drop p).length = L.length + 1 := pm.length_eq
    have nd1 : ((L.take p ++ (x, k) :: L.drop p).map (·.2)).Nodup := by
      refine (pm.map (·.2)).nodup_iff.mpr ?_
      rw [List.map_cons]
      exact List.nodup_cons.mpr ⟨hm, R.nd⟩
    have hes := (entries_size hin).trans hlen
    generalize SetTable.insertAt es p (k.hash w, Value.ref x) = es1 at hin hes ⊢
    generalize L.take p ++ (x, k) :: L.drop p = L1 at pm hlen q3 nd1 hin
    have hl1 : (hashesOf w L1).length = L1.length := List.length_map ..
    refine wpAny_bind (wpAny_storeSet_of ho hd ?_ (by rw [hes, sizeLine_eq]; omega))
    have sb : Heap.SameBut a s.heap (s.heap.update a (Obj.putSet es1 t1)) := Heap.SameBut.update ..
    have ho1 := store_at (es' := es1) (t' := t1) ho hd
    generalize s.heap.update a (Obj.putSet es1 t1) = h1 at sb ho1 ⊢
    have keys1 : ∀ p ∈ L1, KeyAt h1 p.2 p.1 := fun p hp => by
      rcases List.mem_cons.mp (pm.mem_iff.mp hp) with e | hp
      · rw [e]; exact hx.same ho hd sb
      · exact (R.keys p hp).same ho hd sb
    have ld1 : w.params.followText "set-order" = true ∨ t1.led = true := by rw [q5]; exact R.led
    by_cases hf : t1.tooFull = true
    · first
        | (refine wpAny_bind ?_; refine wp_if_pos (by simp [hf]) ?_)
        | (refine wp_if_pos (by simp [hf]) ?_; refine wpAny_bind ?_)
      have hfull : (L.length + 1) * 5 ≥ t1.mask * 3 := by
        have h := hf
        unfold SetTable.tooFull at h
        rw [decide_eq_true_eq, q9, hln] at h
        exact h
      rw [hsl]
      have hsz1 : t1.place.size = es1.size := by
        have h := q3.sz
        omega
      have go : ∀ M, SetTable.sizeAbove (SetTable.grown (L.length + 1)) - 1 = M → MaskOk M → SetTable.sizeAbove (SetTable.grown (L.length + 1)) ≤ 128 → (L.length + 1) * 5 < M * 3 → L.length + 1 ≤ t.mask →
          wpAny (model P w) A (setRelay a (SetTable.grown (L.length + 1))) (fun _ s' => wpAny (model P w) A (pure true) Q E s') E { s with heap := h1 } := fun M h1' h2' h3' h4' h5' => by
        refine nset_relay (s := { s with heap := h1 }) ho1 ⟨hex.1, hex.2.1, hex.2.2⟩ rfl hin hsz1 q3.dm (by rw [hes, q4]; exact h5') nd1 keys1 hp1 ld1 (by rw [hlen]; exact hfew) h1' h2' h3' (by rw [hlen]; exact h4') ?_
        intro h2 L2 es2 t2 sb2 R2 pm2
        exact wpAny_pure (hQ true h2 L2 es2 t2 (sb.trans sb2) R2 (fun z => absurd z hm) fun _ => pm2.trans pm)
      rcases R.tab.mok with e | e | e
      · have e2 : L.length = 4 := by rw [q4, e] at hfull; rw [e] at hroom; omega
        exact go 31 (by rw [e2, size_20]) (.inr (.inl rfl)) (by rw [e2, size_20]; decide) (by omega) (by omega)
      · have e2 : L.length = 18 := by rw [q4, e] at hfull; rw [e] at hroom; omega
        exact go 127 (by rw [e2, size_76]) (.inr (.inr rfl)) (by rw [e2, size_76]; decide) (by omega) (by omega)
      · exfalso
        rw [q4, e] at hfull
        omega
    · first
        | refine wp_if_neg (by simp [hf]) ?_
        | (refine wpAny_bind ?_; refine wp_if_neg (by simp [hf]) ?_; refine wpAny_pure ?_)
      refine wpAny_pure (hQ true h1 L1 es1 t1 sb ⟨⟨_, _, ho1, ⟨hex.1, hex.2.1, hex.2.2⟩, rfl⟩, hin, q3, nd1, keys1, hp1, ld1, ?_, by rw [hlen]; exact hfew⟩ (fun z => absurd z hm) fun _ => pm)
      have h := hf
      unfold SetTable.tooFull at h
      rw [decide_eq_true_eq, q9, hln] at h
      rw [hlen]
      omega
theorem NSet.keep {h h' : Heap} (R : NSet w h a L es t) (ha : ∀ o, h.get? a = some o → h'.get? a = some o) (hk : ∀ p ∈ L, KeyAt h' p.2 p.1) : NSet w h' a L es t :=
  let ⟨o, ep, ho, r⟩ := R.ob
  ⟨⟨o, ep, ha o ho, r⟩, R.rows, R.tab, R.nd, hk, R.plain, R.led, R.room, R.few⟩
theorem nset_fresh {h : Heap} (ho : h.get? a = some { cls := .type "set", dict := none, data := .set #[] 0 (.fresh 0 0 (!w.params.followText "set-order")) }) : NSet w h a [] #[] (.fresh 0 0 (!w.params.followText "set-order")) where
  ob := ⟨_, _, ho, ⟨rfl, rfl, rfl⟩, rfl⟩
  rows := rfl
  tab := ⟨List.Pairwise.nil, rfl, rfl, .inl rfl, fun x hx => (by cases hx), fun i h j hi => (by simp [hashesOf] at hi)⟩
  nd := List.nodup_nil
  keys := fun p hp => (by cases hp)
  plain := rfl
  led := by
    show _ ∨ (!w.params.followText "set-order") = true
    cases w.params.followText "set-order"
    · exact .inr rfl
    · exact .inl rfl
  room := by
    show 0 * 5 < 7 * 3
    decide
  few := by
    show 0 < 64
    decide
structure GotK (ks : KL) (i : Nat) (L : KL) : Prop where
  sub : ∀ p ∈ L, p ∈ ks.take i
  all : ∀ p ∈ ks.take i, p.2 ∈ L.map (·.2)
  len : L.length ≤ i
theorem GotK.next {ks L L' : KL} {i : Nat} {x : Addr × NestedKey} (g : GotK ks i L) (h : ks[i]? = some x) (c1 : x.2 ∈ L.map (·.2) → L' = L) (c2 : x.2 ∉ L.map (·.2) → L'.Perm (x :: L)) : GotK ks (i + 1) L' := by
  have ht : ks.take (i + 1) = ks.take i ++ [x] := by rw [List.take_succ, h] <;> rfl
  by_cases c : x.2 ∈ L.map (·.2)
  · rw [c1 c]
    refine ⟨fun p hp => ?_, fun p hp => ?_, Nat.le_succ_of_le g.len⟩
    · rw [ht]
      exact List.mem_append_left _ (g.sub p hp)
    · rw [ht] at hp
      rcases List.mem_append.mp hp with z | z
      · exact g.all p z
      · rw [List.mem_singleton.mp z]; exact c
  · have pm := c2 c
    refine ⟨fun p hp => ?_, fun p hp => ?_, ?_⟩
    · rw [ht]
      rcases List.mem_cons.mp (pm.mem_iff.mp hp) with e | z
      · rw [e]; exact List.mem_append_right _ (List.mem_singleton.mpr rfl)
      · exact List.mem_append_left _ (g.sub p z)
    · rw [(pm.map (·.2)).mem_iff, List.map_cons]
      rw [ht] at hp
      rcases List.mem_append.mp hp with z | z
      · exact List.mem_cons_of_mem _ (g.all p z)
      · rw [List.mem_singleton.mp z]; exact List.mem_cons_self
    · rw [pm.length_eq, List.length_cons]
      exact Nat.succ_le_succ g.len
end
end K54
set_option Elab.async false
set_option linter.all false
set_option maxRecDepth 100000
set_option maxHeartbeats 4000000
set_option pp.maxSteps 800
namespace K54
open PySem PySem.Spec PyProof.Rows L2
section
variable {P : Program} {w : World} {A : Around} {E : Value → Shared → Prop} {s : Shared}
theorem nset_update {I : Addr} {fp wr : List Addr} {G : Array GenState → Array GenState → Prop} {n : Nat} {Pv : Nat → Value → Prop} {St : Nat → Shared → Prop} {R : Result → Shared → Prop}
    (W : WalksS P w A.in1 I fp wr G n Pv St) (S : Addr) (hSf : S ∉ fp) (ks : KL) (hn : n = ks.length) (hfew : ks.length < 64) (hval : ∀ i v, Pv i v → ∃ p, ks[i]? = some p ∧ v = .ref p.1)
    (h0 : Heap) (hk : ∀ p ∈ ks, KeyAt h0 p.2 p.1) (hS0 : h0.get? S = none) (hw0 : ∀ b ∈ wr, h0.get? b = none) (hu : A.in1.units + 8 < cLine) :
    ∀ (k i : Nat) (s : Shared), n - i = k → i ≤ n → St i s → (∀ b o, h0.get? b = some o → s.heap.get? b = some o) → (∃ L es t, NSet w s.heap S L es t ∧ GotK ks i L) →
      (∀ s' L es t, Moved (S :: wr) G s s' → NSet w s'.heap S L es t → GotK ks n L → (∀ b o, h0.get? b = some o → s'.heap.get? b = some o) → R (.ok (.ret .none)) s') →
      codeAny (model P w) A (.builtin "set.update.loop" ⟨[.ref S, .ref I], []⟩) R s := by
  have hSw : S ∉ wr := fun h => hSf (W.sub _ h)
  have hsub : ∀ b ∈ wr, b ∈ S :: wr := fun b hb => List.mem_cons_of_mem _ hb
  have keepM : ∀ {s s' : Shared}, Moved wr G s s' → (∀ b o, h0.get? b = some o → s.heap.get? b = some o) → ∀ b o, h0.get? b = some o → s'.heap.get? b = some o := fun hm hkp b o e =>
    hm.heap b o (fun hb => by rw [hw0 b hb] at e; cases e) (hkp b o e)
  have there : ∀ {L : KL} {i : Nat} {h : Heap}, GotK ks i L → (∀ b o, h0.get? b = some o → h.get? b = some o) → ∀ p ∈ L, KeyAt h p.2 p.1 := fun g hkp p hp => (hk p (List.mem_of_mem_take (g.sub p hp))).keep hkp
  intro k
  induction k with
  | zero =>
    intro i s hk' hi hst hkp ⟨L, es, t, hS, g⟩ hR
    obtain rfl : i = n := by omega
    refine codeAny_builtin F.entry_set_update_loop ?_
    rw [Around.under_plainId F.plain_set_update_loop _]
    show wpAny _ A.in1 (pyNext (.ref I) >>= _) _ _ s
    refine wpAny_bind (W.done s _ _ hst fun s' hm => ?_)
    show wpAny _ A.in1 (ret Value.none) _ _ s'
    have hkp' := keepM hm hkp
    exact wpAny_pure (hR s' L es t (hm.mono hsub) (hS.keep (fun o e => hm.heap S o hSw e) (there g hkp')) g hkp')
  | succ k ih =>
    intro i s hk' hi hst hkp ⟨L, es, t, hS, g⟩ hR
    have hlt : i < n := by omega
    refine codeAny_builtin F.entry_set_update_loop ?_
    rw [Around.under_plainId F.plain_set_update_loop _]
    show wpAny _ A.in1 (pyNext (.ref I) >>= _) _ _ s
    refine wpAny_bind (W.item i s _ _ hlt hst fun v s' hP hst' hm => ?_)
    obtain ⟨p, hp, rfl⟩ := hval i v hP
    have hkp' := keepM hm hkp
    have hS' : NSet w s'.heap S L es t := hS.keep (fun o e => hm.heap S o hSw e) (there g hkp')
    have hx : KeyAt s'.heap p.2 p.1 := (hk p (List.mem_of_getElem? hp)).keep hkp'
    show wpAny _ A.in1 (holding [Value.ref p.1] (setAdd S (.ref p.1)) >>= _) _ _ s'
    refine wpAny_bind (wpAny_holding ?_)
    unfold setAdd
    refine wpAny_holding ?_
    refine wpAny_bind ((nestedKind P w).pyHash (by exact hu) hx.kind ?_)
    refine nset_add (s := { s' with toks := s'.toks + (nestedKind P w).draws p.2 }) hS' hx hu (by have := g.len; omega) fun b h' L' es' t' hsb hS2 c1 c2 => ?_
    have hkp2 : ∀ b o, h0.get? b = some o → h'.get? b = some o := fun b o e => (hsb.2 b (fun z => by rw [z, hS0] at e; cases e)).trans (hkp' b o e)
    refine wpAny_pure ⟨plainId_quiet F.plain_set_update_loop _, ih (i + 1) _ (by omega) hlt (W.frame _ s' _ _ hst' (Nat.le_add_right _ _) fun b hb o e => ?_) hkp2 ⟨L', es', t', hS2, g.next hp c1 c2⟩ fun s'' L2 es2 t2 hm'' hS'' g'' hkp'' => ?_⟩
    · rw [hsb.2 b (fun h : b = S => hSf (by rw [← h]; exact hb))]
      exact e
    · refine hR s'' L2 es2 t2 (Moved.trans W.gtrans ((hm.mono hsub).then_heap (Nat.le_add_right _ _) fun b o hb e => ?_) hm'') hS'' g'' hkp''
      rw [hsb.2 b (fun h : b = S => hb (by rw [h]; exact List.mem_cons_self))]
      exact e
set_option maxHeartbeats 3200000 in
theorem call_nset {l : Addr} {items : Array Value} (ks : KL) {Q : Value → Shared → Prop} (hh : A.handled = none) (hl : s.heap.IsList l items) (hit : items.toList = ks.map fun p => Value.ref p.1)
    (hk : ∀ p ∈ ks, KeyAt s.heap p.2 p.1) (hfew : ks.length < 64) (hu : A.units + 20 < cLine)
    (h : ∀ (h' : Heap) (tk : Nat) L es t, NSet w h' s.heap.objs.size L es t → GotK ks ks.length L → (∀ b o, s.heap.get? b = some o → h'.get? b = some o) → Q (.ref s.heap.objs.size) { s with heap := h', toks := tk }) :
    wpAny (model P w) A (call (.type "set") [.ref l]) Q E s := by
  have hisz : items.size = ks.length := by
    have q := congrArg List.length hit
    rw [Array.length_toList, List.length_map] at q
    exact q
  obtain ⟨c, tl, hmro⟩ := F.called_set.mro
  have hmade := F.called_set.made
  have hsub := F.called_set.sub
  refine wpAny_call (codeAny_of_tree ?_)
  show wpAny _ _ (callAny (.type "set") _) _ _ _
  refine wpAny_pure ⟨Code.quiet_builtin _ (by decide +kernel), codeAny_builtin F.entry_type_call ?_⟩
  rw [Around.under_plain (weight_type_call_type "set" [.ref l] []) rfl]
  have h1 := F.called_set.notType
  have h2 := F.called_set.canCreate
  have hct := F.typeCall_set_1 (.ref l)
  repeat (any_goals (first | assumption | wp_step))
  refine codeAny_mono (code_set_led1 (.ref l) (E := E) (Q₁ := fun obj s₁ => obj = .ref s.heap.objs.size ∧ s₁ = { s with heap := s.heap.push { cls := .type "set", dict := none, data := .set #[] 0 (.fresh 0 0 (!w.params.followText "set-order")) } }) ⟨rfl, rfl⟩) fun r s₁ hr => ?_
  cases r with
  | error e => exact hr
  | ok fl =>
    cases fl with
    | ret obj =>
      obtain ⟨rfl, rfl⟩ := hr
      have hz1 : (s.heap.push { cls := .type "set", dict := none, data := .set #[] 0 (.fresh 0 0 (!w.params.followText "set-order")) }).objs.size = s.heap.objs.size + 1 := Heap.size_push ..
      have hS : (s.heap.push { cls := .type "set", dict := none, data := .set #[] 0 (.fresh 0 0 (!w.params.followText "set-order")) }).get? s.heap.objs.size = some { cls := .type "set", dict := none, data := .set #[] 0 (.fresh 0 0 (!w.params.followText "set-order")) } := Heap.get?_push_size _ rfl
      have k1 : ∀ b o, s.heap.get? b = some o → (s.heap.push { cls := .type "set", dict := none, data := .set #[] 0 (.fresh 0 0 (!w.params.followText "set-order")) }).get? b = some o := fun b o e => Heap.get?_push_of_some _ e
      generalize hh1 : s.heap.push { cls := .type "set", dict := none, data := .set #[] 0 (.fresh 0 0 (!w.params.followText "set-order")) } = g1 at hz1 hS k1 ⊢
      have hT : Shared.TypeIs { s with heap := g1 } (.ref s.heap.objs.size) "set" := ⟨_, hS, rfl⟩
      have hli := F.called_set.init.lookup
      have hbi := F.called_set.init.bind (.ref s.heap.objs.size)
      repeat (any_goals (first | assumption | wp_step))
      refine codeAny_mono (codeAny_call_builtin (R := wants (fun r s₂ => r = .none ∧ ∃ h' tk L es t, s₂ = { s with heap := h', toks := tk } ∧ NSet w h' s.heap.objs.size L es t ∧ GotK ks ks.length L ∧
          (∀ b o, s.heap.get? b = some o → h'.get? b = some o)) E) F.called_set.init.plain F.entry_set_init (check_set_init_1 hT ?_)) fun r₂ s₂ hr₂ => ?_
      · obtain ⟨⟨ocls, odict, odata, oslots⟩, hol, hcl, nl, hdl⟩ := hl
        simp only at hcl hdl
        subst hcl; subst hdl
        have hol' := k1 _ _ hol
        have hsls := F.sub_list_set
        have hslf := F.sub_list_frozenset
        have hne : (Value.type "list" == Value.type "dict") = false := by decide
        have hl1 : g1.IsList l items := ⟨_, hol', rfl, nl, rfl⟩
        unfold Builtin.«set.__init__» noKeywords Builtin.Frozenset.updateFrom
        generalize hPI : pyIter = PI
        wp_walk
        subst hPI
        refine wpAny_pyIter_list hl1 ?_
        refine wpAny_bind (wpAny_runValue ?_)
        have hlS : l < s.heap.objs.size := Heap.lt_size hol
        have hh3 : A.in1.in1.in1.handled = none := by simp [hh]
        have hneI : l ≠ g1.objs.size := by rw [hz1]; exact Nat.ne_of_lt (Nat.lt_succ_of_lt hlS)
        have hSf : s.heap.objs.size ∉ [g1.objs.size, l] := by
          rw [hz1]
          simp only [List.mem_cons, List.not_mem_nil, or_false, not_or]
          exact ⟨Nat.ne_of_lt (Nat.lt_succ_self _), Nat.ne_of_gt hlS⟩
        have hval : ∀ (i : Nat) (v : Value), items[i]? = some v → ∃ p, ks[i]? = some p ∧ v = .ref p.1 := fun i v hv => by
          have q : items.toList[i]? = some v := by rw [Array.getElem?_toList]; exact hv
          rw [hit, List.getElem?_map] at q
          cases hq : ks[i]? with
          | none => rw [hq] at q; cases q
          | some p =>
            rw [hq] at q
            exact ⟨p, rfl, (Option.some.inj q).symm⟩
        have none_of : ∀ b, s.heap.objs.size ≤ b → s.heap.get? b = none := fun b hb => Heap.get?_none_of_le hb
        refine nset_update ((Walks.list hh3 _ l hneI items).toS) s.heap.objs.size hSf ks hisz hfew hval s.heap hk (none_of _ (Nat.le_refl _)) (fun b hb => none_of b (by
            rw [List.mem_singleton.mp hb, hz1]
            exact Nat.le_succ _)) (by show A.units + 1 + 1 + 1 + 8 < cLine; omega) (items.size - 0) 0 _ (by omega) (Nat.zero_le _)
          ⟨⟨_, Heap.get?_push_size _ rfl, rfl, rfl⟩, (hl1.push _)⟩ (fun b o e => Heap.get?_push_of_some _ (k1 b o e)) ?hS0 ?hR
        case hS0 => exact ⟨[], #[], _, nset_fresh (Heap.get?_push_of_some _ hS), fun p h => (by cases h), fun p h => (by simp at h), Nat.le_refl _⟩
        case hR =>
          intro s' L es t hm hS' g' hkp
          obtain ⟨h', g2, d', tk', os'⟩ := s'
          obtain rfl : g2 = s.gens := hm.gens
          obtain rfl : d' = s.drawn := hm.drawn
          obtain rfl : os' = s.os := hm.os
          show wpAny _ _ _ _ _ _
          refine wpAny_pure ?_
          show wpAny _ _ (ret Value.none) _ _ _
          rw [hisz] at g'
          exact wpAny_pure ⟨rfl, h', tk', L, es, t, rfl, hS', g', hkp⟩
      · cases r₂ with
        | error e => exact hr₂
        | ok fl₂ =>
          cases fl₂ with
          | ret r =>
            obtain ⟨rfl, h', tk, L, es, t, rfl, hS', g', hk'⟩ := hr₂
            repeat (any_goals (first | assumption | wp_step))
            exact h _ _ _ _ _ hS' g' hk'
          | _ => exact hr₂.elim
    | _ => exact hr.elim
end
end K54
set_option Elab.async false
set_option linter.all false
set_option maxRecDepth 100000
set_option maxHeartbeats 4000000
set_option pp.maxSteps 800
namespace K54
open PySem PySem.Spec PyProof.Rows L2
def NsP (w : World) (a : Addr) (L : KL) (h : Heap) : Prop := ∃ (es : Array (Int × Value)) (t : SetTable), (∃ o ep, h.get? a = some o ∧ o.ExactSet ∧ o.data = .set es ep t) ∧ es.toList = entriesOf w L ∧ TabOk t (hashesOf w L) ∧ (L.map (·.2)).Nodup ∧
  t.plain = true ∧ (w.params.followText "set-order" = true ∨ t.led = true) ∧ L.length * 5 < t.mask * 3 ∧ L.length < 64
def NsO (w : World) (a : Addr) (L : KL) : HO := .ext fun h => NsP w a L h
theorem nsO_ok {P : Program} {w : World} {H : Hp} {h : Heap} {a : Addr} {L : KL} (p : NsP w a L h) : ObjOk P w H h a (NsO w a L) := by
  have ⟨es, t, ⟨o, ep, ho, r⟩, q⟩ := p
  refine ⟨p, ⟨o, ho⟩, fun h1 h2 p' k => ?_⟩
  have ⟨es', t', ⟨o', ep', ho', r'⟩, q'⟩ := p'
  exact ⟨es', t', ⟨o', ep', k o' ho', r'⟩, q'⟩
theorem NSet.p {w : World} {h : Heap} {a : Addr} {L : KL} {es : Array (Int × Value)} {t : SetTable} (R : NSet w h a L es t) : NsP w a L h := ⟨es, t, R.ob, R.rows, R.tab, R.nd, R.plain, R.led, R.room, R.few⟩
def NsAt (w : World) (H : Hp) (a : Addr) (ks : List NestedKey) : Prop := ∃ L : KL, H a = some (NsO w a L) ∧ ks = L.map (·.2) ∧ ∀ p ∈ L, KyT H p.2 (.ref p.1) ∧ p.2.depth ≤ 8
mutual
theorem kyT_num {H : Hp} : ∀ {k : NestedKey} {v : V}, KyT H k v → numk k = true
  | _, _, .num _ => rfl
  | _, _, .tup _ q => kyTs_num q
theorem kyTs_num {H : Hp} : ∀ {ks : List NestedKey} {vs : List V}, KyTs H ks vs → numks ks = true
  | _, _, .nil => rfl
  | _, _, .cons a b => Bool.and_eq_true_iff.mpr ⟨kyT_num a, kyTs_num b⟩
end
section
variable {X : Cx}
theorem key_at {pins : List (Addr × Obj)} {σ : L2.St} {H : Hp} {s : Shared} (I : Inv X pins σ H s) {k : NestedKey} {a : Addr} (h : KyT H k (.ref a)) (hd : k.depth ≤ 8) : KeyAt s.heap k a := ⟨key_is I h rfl, hd, kyT_num h⟩
def rSetOfN (K : PySem.W.Frag) (w : World) : List V → Hp → VK → Prop := fun xs H Q => ∃ (l : Addr) (as : List Addr) (ks : List NestedKey), xs = [.ref l] ∧ SqL K H l (as.map V.ref) ∧ RefsOf H ks as ∧ (∀ k ∈ ks, k.depth ≤ 8) ∧ ks.length < 64 ∧
  ∀ a n ks', H a = none → ks'.Nodup → (∀ k, k ∈ ks' ↔ k ∈ ks) → NsAt w (upd H a n) a ks' → Q (.ref a) (upd H a n)
theorem zip_at {H : Hp} : ∀ {ks : List NestedKey} {as : List Addr}, RefsOf H ks as → (as.zip ks).map (·.1) = as ∧ (as.zip ks).map (·.2) = ks ∧ ∀ p ∈ as.zip ks, KyT H p.2 (.ref p.1)
  | _, _, .nil => ⟨rfl, rfl, fun p h => by cases h⟩
  | _, _, .cons z t => by
    obtain ⟨h1, h2, h3⟩ := zip_at t
    refine ⟨by simp [h1], by simp [h2], fun p hp => ?_⟩
    rcases List.mem_cons.mp hp with e | hp
    · rw [e]; exact z
    · exact h3 p hp
theorem cr_setOfN (hc : X.calm = true) (hu : X.A.units + 64 < cLine) : CallR X (.type "set") (rSetOfN X.K X.w) := by
  intro pins s σ H xs us Q I r h
  obtain ⟨l, as, ks, rfl, hl, hp, hd, hf, q⟩ := h
  rw [Vals.ref1 r]
  obtain ⟨its, rv, pl, hz⟩ := I.list hl
  obtain ⟨z1, z2, z3⟩ := zip_at hp
  have hlen : (as.zip ks).length = ks.length := by rw [← List.length_map (f := fun p : Addr × NestedKey => p.2), z2]
  have hits : its = as.map Value.ref := by
    have go : ∀ {as : List Addr} {us : List Value}, Vals (as.map V.ref) us → us = as.map Value.ref := by
      intro as
      induction as with
      | nil => intro us r; cases r; rfl
      | cons a as ih =>
        intro us r
        cases r with
        | cons r1 r2 => rw [ih r2, show _ = Value.ref a from r1] <;> rfl
    exact go rv
  have hn : H s.heap.objs.size = none := I.hok.fresh (Nat.le_refl _)
  have h8 : ∀ p ∈ as.zip ks, p.2.depth ≤ 8 := fun p hm => hd p.2 (by rw [← z2]; exact List.mem_map.mpr ⟨p, hm, rfl⟩)
  refine call_nset (P := X.prog) (w := X.w) (as.zip ks) (I.ok.hd hc) pl.isList (by
      show its = _
      rw [hits]
      conv => lhs; rw [← z1]
      rw [List.map_map] <;> rfl) (fun p hm => key_at I (z3 p hm) (h8 p hm)) (by omega) (by omega) fun h' tk L es t R g k => ?_
  have sub : ∀ p ∈ L, p ∈ as.zip ks := fun p hm => List.mem_of_mem_take (g.sub p hm)
  have t0 : TupS H (upd H s.heap.objs.size (NsO X.w s.heap.objs.size L)) := tupS_upd fun ys e => by
    rw [hn] at e
    cases e
  refine ⟨.ref s.heap.objs.size, _, I.laid (t' := tk) k (Nat.le_refl _) (nsO_ok R.p), rfl, q _ _ _ hn R.nd (fun k => ⟨fun hm => ?_, fun hm => ?_⟩) ⟨L, upd_same, rfl, fun p hm => ⟨(z3 p (sub p hm)).mono t0, h8 p (sub p hm)⟩⟩⟩
  · obtain ⟨p, hm2, rfl⟩ := List.mem_map.mp hm
    rw [← z2]
    exact List.mem_map.mpr ⟨p, sub p hm2, rfl⟩
  · rw [← z2] at hm
    obtain ⟨p, hm2, rfl⟩ := List.mem_map.mp hm
    exact g.all p (by rw [List.take_length]; exact hm2)
def rSortedSN (w : World) : List V → Hp → VK → Prop := fun vs H Q => ∃ (a : Addr) (ks : List NestedKey), vs = [.ref a] ∧ NsAt w H a ks ∧ KeysOk ks ∧
  ∀ (p : Addr) (as : List Addr) (ks' : List NestedKey), ks'.Perm ks → H p = none → RefsOf H (ks'.mergeSort keyLe) as → Q (.ref p) (upd H p (.lst (as.map V.ref)))
theorem keysOk_perm {ks ks' : List NestedKey} (h : KeysOk ks) (p : ks'.Perm ks) : KeysOk ks' := by
  have hm : ∀ d ∈ ks'.map NestedKey.data, d ∈ ks.map NestedKey.data := fun d hd => (p.map NestedKey.data).mem_iff.mp hd
  refine ⟨fun d hd d' hd' => h.1 d (hm d hd) d' (hm d' hd'), ?_, fun k hk => h.2.2 k (p.mem_iff.mp hk)⟩
  rcases h.2.1 with hs | ⟨h1, h2⟩
  · refine .inl ?_
    rcases hs with hs | hs
    · exact .inl fun d hd => hs d (hm d hd)
    · exact .inr fun d hd => hs d (hm d hd)
  · exact .inr ⟨by rw [p.length_eq]; exact h1, fun k hk => h2 k (p.mem_iff.mp hk)⟩
theorem cr_sortedSN (hc : X.calm = true) (hu : X.A.units + 64 < cLine) : CallR X (.builtin "sorted") (rSortedSN X.w) := by
  intro pins s σ H vs us Q I r h
  obtain ⟨a, ks, rfl, ⟨L, e, rfl, hL⟩, ok, q⟩ := h
  obtain ⟨u, rfl, rx⟩ := vals1 r
  obtain rfl : u = .ref a := rx
  have obj : ObjOk X.prog X.w H s.heap a (NsO X.w a L) := I.hok a _ e
  obtain ⟨es, t, ⟨o, ep, ho, hex, hd⟩, hr, T, nd, pl, ld, rm, few⟩ : NsP X.w a L s.heap := obj.1
  have R : NSet X.w s.heap a L es t := ⟨⟨o, ep, ho, hex, hd⟩, hr, T, nd, fun p hm => key_at I (hL p hm).1 (hL p hm).2, pl, ld, rm, few⟩
  have hsz := entries_size hr
  refine Calls.call_function_entry PyProof.Rows.kind_sorted PyProof.Rows.plain_sorted PyProof.Rows.entry_sorted (PyProof.Rows.args_sorted1 _) ?_
  unfold Builtin.«sorted»
  refine wpAny_bind (m := checkCount "sorted" 1 1 _) (wpAny_pure ?_)
  refine wpAny_bind (collect_set (A := X.A.in1) (I.ok.hd hc) ⟨o, ho, hex.1, hd⟩ R.fits (by unfold scanBound; omega) R.tab.ris R.led fun s1 vs k1 hz g1 o1 pm => ?_)
  have hes : es.toList.map (·.2) = L.map fun q => Value.ref q.1 := by
    rw [hr]
    unfold entriesOf
    rw [List.map_map] <;> rfl
  rw [hes] at pm
  have ord : ∀ vs : List Value, (∀ v ∈ vs, ∃ q ∈ L, v = Value.ref q.1) → ∃ L1 : KL, vs = L1.map (fun q => Value.ref q.1) ∧ ∀ q ∈ L1, q ∈ L := by
    intro vs
    induction vs with
    | nil => intro _; exact ⟨[], rfl, fun q hq => (by cases hq)⟩
    | cons v vs ih =>
      intro hv
      obtain ⟨q, hq, e⟩ := hv v List.mem_cons_self
      obtain ⟨L1, e1, hs⟩ := ih fun u hu => hv u (List.mem_cons_of_mem _ hu)
      refine ⟨q :: L1, by rw [List.map_cons, e, e1], fun r hr => ?_⟩
      rcases List.mem_cons.mp hr with z | z
      · rw [z]; exact hq
      · exact hs r z
  obtain ⟨L1, e1, hs⟩ := ord vs fun v hv => by
    obtain ⟨q, hq, e⟩ := List.mem_map.mp (pm.mem_iff.mp hv)
    exact ⟨q, hq, e.symm⟩
  have one : ∀ q ∈ L, ∀ r ∈ L, q.1 = r.1 → q = r := fun q hq r hr e => by
    have a1 := R.keys q hq
    rw [e] at a1
    exact Prod.ext e (a1.uniq (R.keys r hr))
  have nL : L.Nodup := nodup_of_map nd
  have nref : (L.map fun q => Value.ref q.1).Nodup := List.pairwise_map.mpr (List.Pairwise.imp_of_mem (fun {q r} hq hr hne e => by
    injection e with e
    exact hne (one q hq r hr e)) nL)
  have pL : L1.Perm L := by
    rw [e1] at pm
    have n1 : L1.Nodup := nodup_of_map (pm.nodup_iff.mpr nref)
    refine (List.perm_ext_iff_of_nodup n1 nL).mpr fun q => ⟨hs q, fun hq => ?_⟩
    have hm : Value.ref q.1 ∈ L1.map (fun q => Value.ref q.1) := pm.mem_iff.mpr (List.mem_map.mpr ⟨q, hq, rfl⟩)
    obtain ⟨r, hr, e⟩ := List.mem_map.mp hm
    injection e with e
    rw [← one r (hs r hr) q hq e]
    exact hr
  have hrefs : RefsOf H (L1.map (·.2)) (L1.map (·.1)) := by
    have go : ∀ L1 : KL, (∀ q ∈ L1, q ∈ L) → RefsOf H (L1.map (·.2)) (L1.map (·.1)) := by
      intro L1
      induction L1 with
      | nil => intro _; exact .nil
      | cons q L1 ih => intro hs; exact .cons (hL q (hs q List.mem_cons_self)).1 (ih fun r hr => hs r (List.mem_cons_of_mem _ hr))
    exact go L1 hs
  have I1 : Inv X pins σ H s1 := I.call' (ch := []) o1 (Un.kept k1) (I.hok.kept k1) (by rw [g1]; exact I.bare) fun _ z => nomatch z
  have hvs : vs = (L1.map (·.1)).map Value.ref := by rw [e1, List.map_map] <;> rfl
  rw [hvs]
  have pk : (L1.map (·.2)).Perm (L.map (·.2)) := pL.map _
  refine wpAny_bind (thn (sort_tail I1 hrefs (keysOk_perm ok pk) (by rw [List.length_map, pL.length_eq]; omega) hu fun p as hp hr => q p as _ pk hp hr) fun l s2 h2 => ?_)
  refine wpAny_bind (wpAny_holding (thn h2 fun _ s3 h3 => ?_))
  exact wpAny_pure ⟨_, rfl, h3⟩
end
end K54
set_option Elab.async false
set_option linter.all false
set_option maxRecDepth 100000
set_option maxHeartbeats 4000000
set_option pp.maxSteps 800
namespace K54
open PySem PySem.Spec PyProof.Rows L2
def tKdGet (K : PySem.W.Frag) (d : Addr) (td ty : TE) : TE := fun σ H Q => td σ H fun x H1 => x = .ref d ∧ ty σ H1 fun y H2 => ∃ (z : Str) (r : Option Value) (v0 : V), y = .str z ∧ PySem.W.nsIn K d z = some r ∧ RelV v0 (r.getD .none) ∧ Q v0 H2
theorem pe_kdget {X : Cx} {o e : Expr} {apos cpos : Pos} {td ty : TE} {d : Addr} {es : Array DictEntry} {n : Nat} (D : KDict X.K X.w d es n) (ho : PE X o td) (he : PE X e ty)
    (hb : attributeBase o "get" X.env (eval o X.env) = eval o X.env := by rfl)
    (hf : ((backTo cpos (starEach [e] X.env)).all (fun x => !x.1) && (backToKw cpos (keywordEach [] X.env)).all (fun x => x.1.isSome)
      && decide (([e] : List Expr).length + ([] : List Keyword).length + (if ([] : List Keyword).isEmpty then 0 else 1) < 30)) = true := by rfl)
    (hl : (apos.endLine == cpos.line) = true := by rfl) (ht : backTo cpos (starEach [e] X.env) = [(false, eval e X.env)] := by rfl) : PE X (.Call (.Attribute o "get" apos) [e] [] cpos) (tKdGet X.K d td ty) := by
  have m : M1 X o "get" apos e cpos := ⟨hb, hf, hl, ht⟩
  refine ⟨fun pins s σ H Q I h => ?_⟩
  refine wpAny_Call_method m.base m.few m.line PySem.F.plainAttrs_dict PySem.F.slot_dict_get PySem.F.type_dict_get (thn (ho.run pins s σ H _ I h) fun u s1 ⟨x, H1, I1, rx, ex, q1⟩ => ?_)
  subst ex
  obtain rfl : u = Value.ref d := rx
  have mp := PySem.W.mapOf_K (prog := X.prog) (w := X.w) I1.kIn D.at_ D.lit
  refine ⟨mp.typeIs, mp.noDict, ?_⟩
  rw [m.trees]
  refine Calls.callWith_builtin rfl (Calls.evalArgs_plain (Calls.spliced_cons (thn (he.run pins s1 σ H1 _ I1 q1) fun iv s2 ⟨y, H2, I2, ry, z, r, v0, ey, en, rv, q2⟩ => Calls.spliced_nil ?_)))
  subst ey
  obtain ⟨t, rfl⟩ := ry
  have mp2 := PySem.W.mapOf_K (prog := X.prog) (w := X.w) I2.kIn D.at_ D.lit
  refine call_meetsIn PySem.F.slot_dict_get mp2.typeIs PySem.F.entry_dict_get (PySem.F.args_dict_get_2 _ _) (meets_dict_get (strKind X.prog X.w) d (PySem.strKind_is X.prog X.w z t) D.low) ⟨_, mp2, ?_⟩
  rw [PySem.W.find_K D.at_ en]
  exact ⟨v0, H2, I2.tok _, rv, q2⟩
end K54
set_option Elab.async false
set_option linter.all false
set_option maxRecDepth 100000
set_option maxHeartbeats 4000000
set_option pp.maxSteps 800
namespace K54
open PySem PySem.Spec PyProof.Rows L2
section
variable {P : Program} {w : World} {A : Around} {E : Value → Shared → Prop} {R : Result → Shared → Prop} {s : Shared}
theorem any_take {xs : List Str} {i : Nat} {x : Str} (h : xs[i]? = some x) (k : Str) : ((xs.take i).any (· == k) || decide (k = x)) = (xs.take (i + 1)).any (· == k) := by
  rw [List.take_add_one, h, List.any_append]
  congr 1
  show decide (k = x) = ((x == k) || false)
  rw [Bool.or_false, Bool.eq_iff_iff]
  simp only [decide_eq_true_eq, beq_iff_eq]
  exact eq_comm
theorem take_not {xs : List Str} {i : Nat} {x : Str} (nd : xs.Nodup) (h : xs[i]? = some x) : (xs.take i).any (· == x) = false := by
  rw [List.any_eq_false]
  intro y hy e
  have e : y = x := by simpa using e
  subst e
  obtain ⟨j, hj⟩ := List.mem_iff_getElem?.mp hy
  rw [List.getElem?_take] at hj
  split at hj
  · rename_i hlt
    have h1 := List.getElem?_eq_some_iff.mp hj
    have h2 := List.getElem?_eq_some_iff.mp h
    exact List.pairwise_iff_getElem.mp nd j i h1.1 h2.1 hlt (h1.2.trans h2.2.symm)
  · cases hj
theorem text_update {I : Addr} {fp wr : List Addr} {G : Array GenState → Array GenState → Prop} {n : Nat} {Pv : Nat → Value → Prop} {St : Nat → Shared → Prop}
    (W : WalksS P w A.in1 I fp wr G n Pv St) (S : Addr) (hSf : S ∉ fp) (xs : List Str) (hn : n = xs.length) (nd : xs.Nodup) (hfew : xs.length < 100) (hval : ∀ i v, Pv i v → ∃ x t, xs[i]? = some x ∧ v = .str x t) :
    ∀ (k i : Nat) (s : Shared), n - i = k → i ≤ n → St i s → s.heap.SetOf (strKind P w) S (fun k' => (xs.take i).any (· == k')) i →
      (∀ s', Moved (S :: wr) G s s' → s'.heap.SetOf (strKind P w) S (fun k' => (xs.take n).any (· == k')) n → R (.ok (.ret .none)) s') →
      codeAny (model P w) A (.builtin "set.update.loop" ⟨[.ref S, .ref I], []⟩) R s := by
  have hSw : S ∉ wr := fun h => hSf (W.sub _ h)
  have hsub : ∀ b ∈ wr, b ∈ S :: wr := fun b hb => List.mem_cons_of_mem _ hb
  intro k
  induction k with
  | zero =>
    intro i s hk hi hst hS hR
    have hin : i = n := by omega
    subst hin
    refine codeAny_builtin PyProof.Rows.F.entry_set_update_loop ?_
    rw [Around.under_plainId PyProof.Rows.F.plain_set_update_loop _]
    show wpAny _ A.in1 (pyNext (.ref I) >>= _) _ _ s
    refine wpAny_bind (W.done s _ _ hst fun s' hm => ?_)
    show wpAny _ A.in1 (ret Value.none) _ _ s'
    refine wpAny_pure (hR s' (hm.mono hsub) ?_)
    obtain ⟨o, es, ep, t, ho, rest⟩ := hS
    exact ⟨o, es, ep, t, hm.heap S _ hSw ho, rest⟩
  | succ k ih =>
    intro i s hk hi hst hS hR
    have hlt : i < n := by omega
    refine codeAny_builtin PyProof.Rows.F.entry_set_update_loop ?_
    rw [Around.under_plainId PyProof.Rows.F.plain_set_update_loop _]
    show wpAny _ A.in1 (pyNext (.ref I) >>= _) _ _ s
    refine wpAny_bind (W.item i s _ _ hlt hst fun v s' hP hst' hm => ?_)
    obtain ⟨x, t, hx, rfl⟩ := hval i v hP
    have hS' : s'.heap.SetOf (strKind P w) S (fun k' => (xs.take i).any (· == k')) i := by
      obtain ⟨o, es, ep, tb, ho, rest⟩ := hS
      exact ⟨o, es, ep, tb, hm.heap S _ hSw ho, rest⟩
    show wpAny _ A.in1 (holding [Value.str x t] (setAdd S (.str x t)) >>= _) _ _ s'
    refine wpAny_bind (wpAny_holding ?_)
    unfold setAdd
    refine wpAny_holding ?_
    refine wpAny_bind ((strKind P w).pyHash (k := x) (strKind_is _ _ _ _) ?_)
    refine wpAny_setAddHashed_of (knd := strKind P w) (s := { s' with toks := s'.toks + 1 }) (strKind_is _ _ _ _) rfl hS' (by unfold scanBound; omega) fun h' hsb hS2 => ?_
    have hSi : h'.SetOf (strKind P w) S (fun k' => (xs.take (i + 1)).any (· == k')) (i + 1) :=
      SetOf_congr hS2 (fun k' => any_take hx k') (by rw [take_not nd hx]; rfl)
    refine wpAny_pure ⟨plainId_quiet PyProof.Rows.F.plain_set_update_loop _, ih (i + 1) _ (by omega) hlt (W.frame _ s' _ _ hst' (Nat.le_succ _) fun b hb o e => ?_) hSi fun s'' hm'' hS'' => ?_⟩
    · rw [hsb.2 b (fun h : b = S => hSf (by rw [← h]; exact hb))]
      exact e
    · refine hR s'' (Moved.trans W.gtrans ((hm.mono hsub).then_heap (Nat.le_succ _) fun b o hb e => ?_) hm'') hS''
      rw [hsb.2 b (fun h : b = S => hb (by rw [h]; exact List.mem_cons_self))]
      exact e
theorem call_tset {l : Addr} {items : Array Value} (xs : List Str) {Q : Value → Shared → Prop} (hh : A.handled = none) (hl : s.heap.IsList l items) (hit : StrsAre items.toList xs) (nd : xs.Nodup) (hfew : xs.length < 100)
    (h : ∀ (h' : Heap) (tk : Nat), h'.SetOf (strKind P w) s.heap.objs.size (fun k' => xs.any (· == k')) xs.length → (∀ b o, s.heap.get? b = some o → h'.get? b = some o) → Q (.ref s.heap.objs.size) { s with heap := h', toks := tk }) :
    wpAny (model P w) A (call (.type "set") [.ref l]) Q E s := by
  have hisz : items.size = xs.length := by rw [← StrsAre.len_eq hit, Array.length_toList]
  obtain ⟨c, tl, hmro⟩ := F.called_set.mro
  have hmade := F.called_set.made
  have hsub := F.called_set.sub
  refine wpAny_call (codeAny_of_tree ?_)
  show wpAny _ _ (callAny (.type "set") _) _ _ _
  refine wpAny_pure ⟨Code.quiet_builtin _ (by decide +kernel), codeAny_builtin F.entry_type_call ?_⟩
  rw [Around.under_plain (weight_type_call_type "set" [.ref l] []) rfl]
  have h1 := F.called_set.notType
  have h2 := F.called_set.canCreate
  have hct := F.typeCall_set_1 (.ref l)
  repeat (any_goals (first | assumption | wp_step))
  refine codeAny_mono (code_set_led1 (.ref l) (E := E) (Q₁ := fun obj s₁ => obj = .ref s.heap.objs.size ∧ s₁ = { s with heap := s.heap.push { cls := .type "set", dict := none, data := .set #[] 0 (.fresh 0 0 (!w.params.followText "set-order")) } }) ⟨rfl, rfl⟩) fun r s₁ hr => ?_
  cases r with
  | error e => exact hr
  | ok fl =>
    cases fl with
    | ret obj =>
      obtain ⟨rfl, rfl⟩ := hr
      have hz1 : (s.heap.push { cls := .type "set", dict := none, data := .set #[] 0 (.fresh 0 0 (!w.params.followText "set-order")) }).objs.size = s.heap.objs.size + 1 := Heap.size_push ..
      have hS : (s.heap.push { cls := .type "set", dict := none, data := .set #[] 0 (.fresh 0 0 (!w.params.followText "set-order")) }).get? s.heap.objs.size = some { cls := .type "set", dict := none, data := .set #[] 0 (.fresh 0 0 (!w.params.followText "set-order")) } := Heap.get?_push_size _ rfl
      have k1 : ∀ b o, s.heap.get? b = some o → (s.heap.push { cls := .type "set", dict := none, data := .set #[] 0 (.fresh 0 0 (!w.params.followText "set-order")) }).get? b = some o := fun b o e => Heap.get?_push_of_some _ e
      generalize hh1 : s.heap.push { cls := .type "set", dict := none, data := .set #[] 0 (.fresh 0 0 (!w.params.followText "set-order")) } = g1 at hz1 hS k1 ⊢
      have hT : Shared.TypeIs { s with heap := g1 } (.ref s.heap.objs.size) "set" := ⟨_, hS, rfl⟩
      have hli := F.called_set.init.lookup
      have hbi := F.called_set.init.bind (.ref s.heap.objs.size)
      repeat (any_goals (first | assumption | wp_step))
      refine codeAny_mono (codeAny_call_builtin (R := wants (fun r s₂ => r = .none ∧ ∃ h' tk, s₂ = { s with heap := h', toks := tk } ∧ h'.SetOf (strKind P w) s.heap.objs.size (fun k' => xs.any (· == k')) xs.length ∧
          (∀ b o, s.heap.get? b = some o → h'.get? b = some o)) E) F.called_set.init.plain F.entry_set_init (check_set_init_1 hT ?_)) fun r₂ s₂ hr₂ => ?_
      · obtain ⟨⟨ocls, odict, odata, oslots⟩, hol, hcl, nl, hdl⟩ := hl
        simp only at hcl hdl
        subst hcl; subst hdl
        have hol' := k1 _ _ hol
        have hsls := F.sub_list_set
        have hslf := F.sub_list_frozenset
        have hne : (Value.type "list" == Value.type "dict") = false := by decide
        have hl1 : g1.IsList l items := ⟨_, hol', rfl, nl, rfl⟩
        unfold Builtin.«set.__init__» noKeywords Builtin.Frozenset.updateFrom
        generalize hPI : pyIter = PI
        wp_walk
        subst hPI
        refine wpAny_pyIter_list hl1 ?_
        refine wpAny_bind (wpAny_runValue ?_)
        have hlS : l < s.heap.objs.size := Heap.lt_size hol
        have hh3 : A.in1.in1.in1.handled = none := by simp [hh]
        have hneI : l ≠ g1.objs.size := by rw [hz1]; exact Nat.ne_of_lt (Nat.lt_succ_of_lt hlS)
        have hSf : s.heap.objs.size ∉ [g1.objs.size, l] := by
          rw [hz1]
          simp only [List.mem_cons, List.not_mem_nil, or_false, not_or]
          exact ⟨Nat.ne_of_lt (Nat.lt_succ_self _), Nat.ne_of_gt hlS⟩
        have hval : ∀ (i : Nat) (v : Value), items[i]? = some v → ∃ x t, xs[i]? = some x ∧ v = .str x t := fun i v hv => by
          have q : items.toList[i]? = some v := by rw [Array.getElem?_toList]; exact hv
          have hi : i < xs.length := by
            rw [← hisz]
            exact (Array.getElem?_eq_some_iff.mp hv).1
          obtain ⟨t, e⟩ := SS.strs_at hit i v q
          refine ⟨xs[i], t, List.getElem?_eq_getElem hi, ?_⟩
          rw [e, List.getD_eq_getElem?_getD, List.getElem?_eq_getElem hi]
          rfl
        refine text_update ((Walks.list hh3 _ l hneI items).toS) s.heap.objs.size hSf xs hisz nd hfew hval (items.size - 0) 0 _ (by omega) (Nat.zero_le _)
          ⟨⟨_, Heap.get?_push_size _ rfl, rfl, rfl⟩, (hl1.push _)⟩ ?hS0 ?hR
        case hS0 => exact SetOf_congr ((setObjOf_fresh (knd := strKind P w) _).setOf (Heap.get?_push_of_some _ hS) (by unfold scanBound; omega)) (fun _ => rfl) rfl
        case hR =>
          intro s' hm hS'
          obtain ⟨h', g2, d', tk', os'⟩ := s'
          obtain rfl : g2 = s.gens := hm.gens
          obtain rfl : d' = s.drawn := hm.drawn
          obtain rfl : os' = s.os := hm.os
          show wpAny _ _ _ _ _ _
          refine wpAny_pure ?_
          show wpAny _ _ (ret Value.none) _ _ _
          rw [hisz, List.take_length] at hS'
          refine wpAny_pure ⟨rfl, h', tk', rfl, hS', fun b o e => ?_⟩
          have hb := Heap.lt_size e
          have hb1 : b ≠ s.heap.objs.size := Nat.ne_of_lt hb
          have hb2 : b ≠ g1.objs.size := by rw [hz1]; exact Nat.ne_of_lt (Nat.lt_succ_of_lt hb)
          exact hm.heap b o (by simp only [List.mem_cons, List.not_mem_nil, or_false, not_or]; exact ⟨hb1, hb2⟩) (Heap.get?_push_of_some _ (k1 b o e))
      · cases r₂ with
        | error e => exact hr₂
        | ok fl₂ =>
          cases fl₂ with
          | ret r =>
            obtain ⟨rfl, h', tk, rfl, hS', hk'⟩ := hr₂
            repeat (any_goals (first | assumption | wp_step))
            exact h _ _ hS' hk'
          | _ => exact hr₂.elim
    | _ => exact hr.elim
end
def tLenTexts (K : PySem.W.Frag) (ta : TE) : TE := fun σ H Q => ta σ H fun x H1 => ∃ (l : Addr) (xs : List Str), x = .ref l ∧ SqL K H1 l (xs.map V.str) ∧ xs.Nodup ∧ xs.length < 100 ∧ Q (.int xs.length) H1
theorem pe_lenTexts {X : Cx} {a : Expr} {ta : TE} {p p2 q pos : Pos} (hc : X.calm = true) (hg : Gl X "len") (hm : X.mg "len" = none) (hg2 : Gl X "set") (hm2 : X.mg "set" = none) (ha : PE X a ta)
    (na : starEach [a] X.env = (false, eval a X.env) :: starEach [] X.env := by rfl) : PE X (.Call (.Name "len" p) [.Call (.Name "set" p2) [a] [] q] [] pos) (tLenTexts X.K ta) := by
  refine ⟨fun pins s σ H Q I h => ?_⟩
  refine Call_ (ld_blt I hg hm boot_len ?_)
  refine PyProof.Rows.callWith_builtin1 (PyProof.Rows.args_cons ?_ rfl) rfl rfl
  refine Call_ (ld_blt I hg2 hm2 boot_set ?_)
  refine PyProof.Rows.callWith_type1 (PyProof.Rows.args_cons (thn (ha.run pins s σ H _ I h) fun v s1 ⟨x, H1, I1, r1, q1⟩ => PyProof.Rows.args_nil ?_) na) na rfl
  obtain ⟨l, xs, rfl, hq, nd, h1, q1⟩ := q1
  cases r1
  obtain ⟨its, r, pl, hz⟩ := I1.list hq
  refine call_tset xs (I1.ok.hd hc) pl.isList (by simpa using L2.strsAre_of r) nd h1 fun h' tk hS hk => ?_
  refine PyProof.Rows.args_nil ?_
  obtain ⟨o, es, ep, t, ho, hex, hd, _, _, _, hf, hn⟩ := hS
  have I2 : Inv X pins σ H1 { s1 with heap := h', toks := tk } := I1.kept fun b o e => hk b o e
  exact call_len_set ho hex hd hf (by rw [hn]; omega) ⟨.int xs.length, H1, I2.tok _, ⟨_, by rw [hn]⟩, q1⟩
end K54
set_option Elab.async false
set_option linter.all false
set_option maxRecDepth 100000
set_option maxHeartbeats 4000000
set_option pp.maxSteps 800
namespace K54
open PySem PySem.Spec PyProof.Rows L2
open AutoSeq1 (wpAny_loadPart') in
set_option maxHeartbeats 4000000 in
theorem meets_enumerate_newT (l : Addr) (items : Array Value) (n : Nat) (dct : Option Addr) (sl : Array (Option Value)) :
    Meets (Builtin.«enumerate.__new__» ⟨[.type "enumerate", .ref l], []⟩) (fun _ R s => s.heap.get? l = some { cls := .type "tuple", dict := dct, data := .seq items n, slots := sl } ∧
      R (.ok (.ret (.ref (s.heap.push { cls := .type "tuple_iterator", data := .fields #[.ref l, .int 0 0] }).objs.size)))
        { s with heap := (s.heap.push { cls := .type "tuple_iterator", data := .fields #[.ref l, .int 0 0] }).push { cls := .type "enumerate", data := .fields #[.none, .bool false, .ref s.heap.objs.size, rawInt 0, .none, .none] } }) :=
  .of_wp fun prog w A R s h => by
    obtain ⟨hp, g, d, tk, os⟩ := s
    obtain ⟨hl, h⟩ := h
    have hsub := sub_enumerate
    have hL : Heap.IsTuple (Shared.heap ⟨hp, g, d, tk, os⟩) l items := ⟨_, hl, rfl, n, rfl⟩
    wp_walk using wpAny_loadPart' hl
    refine wpAny_stack_any fun st => wpAny_pure ?_
    split
    · rename_i c _ _ _ _ _
      cases (c == Value.type "enumerate")
      · wp_walk using wpAny_loadPart' hl, wpAny_pyIter_tuple hL
        exact ⟨_, rfl, h⟩
      · wp_walk using wpAny_loadPart' hl, wpAny_pyIter_tuple hL
        exact ⟨_, rfl, h⟩
    · wp_walk using wpAny_loadPart' hl, wpAny_pyIter_tuple hL
      exact ⟨_, rfl, h⟩
section
variable {prog : Program} {w : World} {A : Around} {E : Value → Shared → Prop} {s : Shared}
theorem call_enumerate_tuple {l : Addr} {items : Array Value} {Q : Value → Shared → Prop} (hL : s.heap.IsTuple l items)
    (h : ∀ h', IsEnum h' (s.heap.objs.size + 1) s.heap.objs.size 0 .none → h'.IsTupleIter s.heap.objs.size l 0 → h'.objs.size = s.heap.objs.size + 2 →
      (∀ b o, s.heap.get? b = some o → h'.get? b = some o) → Q (.ref (s.heap.objs.size + 1)) { s with heap := h' }) :
    wpAny (model prog w) A (call (.type "enumerate") [.ref l]) Q E s := by
  obtain ⟨⟨c, dct, dt, sl⟩, hl, hc, n, hd⟩ := hL
  replace hc : c = .type "tuple" := hc
  replace hd : dt = .seq items n := hd
  subst hc hd
  refine callType_new PySem.F.called_enumerate (by decide) (PySem.F.typeCall_enumerate_1 _) (PySem.F.newCall_enumerate_1 _) (fun obj => PySem.F.args_object_init_2 obj _) PySem.F.entry_enumerate_new
    (meets_enumerate_newT l items n dct sl) ⟨hl, ?_⟩
  have hz : (s.heap.push { cls := .type "tuple_iterator", data := .fields #[.ref l, .int 0 0] }).objs.size = s.heap.objs.size + 1 := Heap.size_push ..
  show _ ∧ _
  rw [hz]
  have he : IsEnum ((s.heap.push { cls := .type "tuple_iterator", data := .fields #[.ref l, .int 0 0] }).push
      { cls := .type "enumerate", data := .fields #[.none, .bool false, .ref s.heap.objs.size, rawInt 0, .none, .none] }) (s.heap.objs.size + 1) s.heap.objs.size 0 .none := by
    have := Heap.get?_push_size (s.heap.push { cls := .type "tuple_iterator", data := .fields #[.ref l, .int 0 0] })
      (o := { cls := .type "enumerate", data := .fields #[.none, .bool false, .ref s.heap.objs.size, rawInt 0, .none, .none] }) rfl
    rw [hz] at this
    exact this
  refine ⟨⟨_, he, rfl⟩, h _ he ⟨_, Heap.get?_push_of_some _ (Heap.get?_push_size _ rfl), rfl, rfl⟩ (by rw [Heap.size_push, hz]) fun b o x => Heap.get?_push_of_some _ (Heap.get?_push_of_some _ x)⟩
end
section
variable {prog : Program} {w : World} {A : Around} {E : Value → Shared → Prop} {s : Shared}
theorem enum_endT {e it t : Addr} {i : Nat} {j : Int} {items : Array Value} {old : Value} {Q : Option Value → Shared → Prop} (hh : A.handled = none) (he : IsEnum s.heap e it j old) (hit : s.heap.IsTupleIter it t i) (ht : s.heap.IsTuple t items) (hx : items[i]? = none)
    (hQ : ∀ h', Heap.ExtBut it s.heap h' → Q none { s with heap := h' }) : wpAny (model prog w) A (pyNext (.ref e)) Q E s := by
  have hT : s.TypeIs (.ref e) "enumerate" := ⟨_, he, rfl⟩
  unfold pyNext
  refine wpAny_bind (wpAny_attempt (wpAny_callSpecial?_slot (name := Str.ofString "__next__") hT PySem.F.slot_enumerate_next
    (wpAny_call_entry PySem.F.slot_enumerate_next hT PySem.F.entry_enumerate_next ?_ (PySem.F.args_enumerate_next_1 _))))
  show wpAny _ _ (field (.ref e) 2 >>= _) _ _ _
  refine wpAny_bind (wpAny_field he rfl (x := .ref it) rfl ?_)
  refine wpAny_bind (wpAny_nextOf_tuple_end hh hit ht hx fun h' x he' hx' => ?_)
  obtain ⟨o, ho, hc⟩ := hx'
  refine wpAny_bind (wpAny_isInstance (T := "StopIteration") (b := true) ⟨o, ho, hc⟩ isSubtype_stop ?_)
  exact wpAny_pure (hQ _ he')
end
def IteT (K : PySem.W.Frag) (a : Addr) : It :=
  ⟨fun i H => ∃ (xs : List V) (x : V), SqT K H a xs ∧ xs[i]? = some x, fun i H v H' => ∃ T x, v = .ref T ∧ H T = none ∧ H' = upd H T (.tup [.int (i : Nat), x]) ∧ ∀ xs, SqT K H a xs → xs[i]? = some x, fun i H => ∃ xs : List V, SqT K H a xs ∧ xs.length ≤ i⟩
theorem turn_enumT {P : Program} {w : World} {K : PySem.W.Frag} {elts : List Expr} {kk : Nat} {tpos : Pos} (a e it : Addr) :
    Turn P w K (.Tuple elts kk tpos) (IteT K a) [e, it] e (fun i h => (∃ old, IsEnum h e it ((i : Nat) : Int) old) ∧ h.IsTupleIter it a i ∧ e ≠ it) where
  mem := by simp
  obj := fun i h st b hb => by
    obtain ⟨⟨old, he⟩, ⟨o, ho, hc, hd⟩, _⟩ := st
    have e' : b = e ∨ b = it := by simpa using hb
    rcases e' with z | z
    · rw [z]
      exact ⟨_, he, fun v q => nomatch q⟩
    · rw [z]
      exact ⟨o, ho, fun v q => by rw [hd] at q; cases q⟩
  keep := fun i h h' st k => let ⟨⟨old, he⟩, hi, hne⟩ := st; ⟨⟨old, k e (by simp) _ he⟩, hi.at fun o q => k it (by simp) o q, hne⟩
  item := by
    intro X hP hw hK hc i pins s σ H E I hf st hg
    subst hP hw hK
    obtain ⟨⟨old, he⟩, hit, hne⟩ := st
    obtain ⟨xs, x, hq, hx⟩ := hg
    obtain ⟨its, rv, p, hz⟩ := I.tuple hq
    obtain ⟨u, hu, ru⟩ := rv.get hx
    have hel : e < s.heap.objs.size := Heap.lt_size he
    have hil : it < s.heap.objs.size := by obtain ⟨_, q, _⟩ := hit; exact Heap.lt_size q
    have hai : a ≠ it := fun z => by
      obtain ⟨o1, h1, h2, _⟩ := p
      obtain ⟨o2, h3, h4, _⟩ := hit
      rw [z, h3] at h1
      cases h1
      rw [h4] at h2
      exact absurd h2 (by decide)
    have hae : e ≠ a := fun z => by
      obtain ⟨o1, h1, h2, _⟩ := p
      rw [← z, he] at h1
      cases h1
      exact absurd (show Value.type "enumerate" = .type "tuple" from h2) (by decide)
    have hlt : i < its.toArray.size := by
      rw [List.size_toArray]
      exact (List.getElem?_eq_some_iff.mp hu).1
    refine wpAny_pyNext_enum_itemD (Draws.tuple (A := X.A.in1) (I.ok.hd hc) it a hai its.toArray) he ⟨hit, p⟩ hlt hne (by simp [hne, hae]) fun y h' tk hy ho hst' hT hsz hk => ?_
    have hy : y = u := by
      rw [List.getElem?_toArray, hu] at hy
      exact (Option.some.inj hy).symm
    subst hy
    refine ⟨_, rfl, wpAny_letOwnedTupleGo_enum (s := { s with heap := h', toks := tk + 1 }) ho fun h'' he' sb => ?_⟩
    have hT2 : h''.get? s.heap.objs.size = some { cls := .type "tuple", data := .seq #[.int i tk, y] } := (sb.2 _ (Nat.ne_of_gt hel)).trans hT
    have new : ObjOk X.prog X.w (upd H s.heap.objs.size (.tup [.int (i : Nat), x])) h'' s.heap.objs.size (.tup [.int (i : Nat), x]) :=
      ⟨by show 2 ≤ sizeLine; decide, [.int i tk, y], .cons ⟨_, rfl⟩ (.cons ru .nil), ⟨_, hT2, rfl, _, rfl⟩⟩
    have I1 : Inv X pins σ (upd H s.heap.objs.size (.tup [.int (i : Nat), x])) { s with heap := h'', toks := tk + 1 } :=
      I.turnedNew (ch := [e, it]) (fun b ob hb q => (sb.2 b (fun z => hb (by simp [z]))).trans (hk b ob (fun z => hb (by simp [z])) (fun z => hb (by simp [z])) q)) hf (Nat.le_refl _) new
    refine ⟨.ref s.heap.objs.size, _, I1, rfl, ⟨_, x, rfl, I.hok.fresh (Nat.le_refl _), rfl, fun ys hy => by rw [I.tuple_inj hy hq]; exact hx⟩, ⟨⟨y, ?_⟩, hst'.1.at fun o q => (sb.2 it (Ne.symm hne)).trans q, hne⟩, fun b hb => ?_⟩
    · have e1 : ((i + 1 : Nat) : Int) = (i : Int) + 1 := by omega
      rw [e1]
      exact he'
    · have hb' : b < s.heap.objs.size := by
        have e' : b = e ∨ b = it := by simpa using hb
        rcases e' with z | z
        · rw [z]
          exact hel
        · rw [z]
          exact hil
      rw [upd_ne (Nat.ne_of_lt hb')]
      exact (hf b hb).1
  done := by
    intro X hP hw hK hc i pins s σ H E I hf st hg
    subst hP hw hK
    obtain ⟨⟨old, he⟩, hit, hne⟩ := st
    obtain ⟨xs, hq, hx⟩ := hg
    obtain ⟨its, rv, p, hz⟩ := I.tuple hq
    obtain ⟨f0, f1, f2, f3, f4, f5⟩ := hf it (by simp)
    have hl := rv.length
    have hai : a ≠ it := fun z => by
      obtain ⟨o1, h1, h2, _⟩ := p
      obtain ⟨o2, h3, h4, _⟩ := hit
      rw [z, h3] at h1
      cases h1
      rw [h4] at h2
      exact absurd h2 (by decide)
    refine enum_endT (I.ok.hd hc) he hit p (by simp; omega) fun h' eb => ⟨rfl, I.turned (t' := s.toks) (fun b o hb q => eb b o hb q) f0 f1 f3 f4 f5⟩
  self := fun A i s Q E st h => let ⟨⟨_, he⟩, _⟩ := st; wpAny_pyIter_enum he h
def iEnumT (K : PySem.W.Frag) (ta : TA) : TI := fun σ H R => ta σ H fun vs H1 => ∃ a xs, vs = [.ref a] ∧ SqT K H1 a xs ∧ R (IteT K a) H1
theorem pi_enumT {X : Cx} {e : Expr} {ta : TA} {p pos tpos : Pos} {elts : List Expr} {kk : Nat} (hg : Gl X "enumerate") (hm : X.mg "enumerate" = none) (ha : PA X [e] ta) (hs : starEach [e] X.env = [(false, eval e X.env)] := by rfl) :
    PI X (.Tuple elts kk tpos) (.Call (.Name "enumerate" p) [e] [] pos) (iEnumT X.K ta) := by
  refine ⟨fun pins s σ H R I h => ?_⟩
  refine Call_ (ld_blt I hg hm boot_enumerate (PyProof.Rows.callWith_type1 (thn (ha.run pos pins s σ H _ I h) fun us s1 ⟨vs, H1, I1, r1, q1⟩ => ?_) hs rfl))
  obtain ⟨a, xs, ex, hq, q⟩ := q1
  subst ex
  cases r1 with
  | cons r rr =>
    cases rr
    cases r
    obtain ⟨its, rv, p', hz⟩ := I1.tuple hq
    refine call_enumerate_tuple p' fun h' he hit hsz hk => wpAny_pyIter_enum he ?_
    have I2 : Inv X pins σ H1 { s1 with heap := h' } := I1.kept (t' := s1.toks) hk
    refine ⟨s1.heap.objs.size + 1, [s1.heap.objs.size + 1, s1.heap.objs.size], _, _, H1, rfl, I2, turn_enumT a (s1.heap.objs.size + 1) s1.heap.objs.size, ⟨⟨.none, he⟩, hit, Nat.succ_ne_self _⟩, fun b hb => ?_, q⟩
    have e' : b = s1.heap.objs.size + 1 ∨ b = s1.heap.objs.size := by simpa using hb
    have hle : s1.heap.objs.size ≤ b := by
      rcases e' with z | z
      · rw [z]
        exact Nat.le_add_right _ _
      · rw [z]
        exact Nat.le_refl _
    exact I1.fpOk hle (I1.hok.fresh hle)
theorem walk_enumT {K : PySem.W.Frag} {a : Addr} {xs : List V} : Walk (IteT K a) xs.length (fun H => SqT K H a xs) (YPair (fun i => some (.int (i : Nat))) (fun i => xs[i]?)) := by
  refine ⟨fun i _ hi q => ⟨xs, xs[i], q, by simp [hi]⟩, fun _ q => ⟨xs, q, Nat.le_refl _⟩, fun i H v H' _ q y => ?_⟩
  obtain ⟨T, x, h1, h2, h3, h4⟩ := y
  exact ⟨T, .int (i : Nat), x, h1, h2, h3, rfl, h4 xs q⟩
end K54
set_option Elab.async false
set_option linter.all false
set_option maxRecDepth 100000
set_option maxHeartbeats 4000000
set_option pp.maxSteps 800
namespace K54
open PySem PySem.Spec PyProof.Rows L2
theorem nd_dictSet {X : Cx} {P0 : Program} {w0 : World} {pins : List (Addr × Obj)} {σ : L2.St} {H : Hp} {s : Shared} {E : Value → Shared → Prop} {D b : Addr} {ks : List NestedKey} {k : NestedKey} {u r : Value} {Q : Unit → Shared → Prop} (hP : X.prog = P0) (hw : X.w = w0)
    (hu : X.A.units + 64 < cLine) (I : Inv X pins σ H s) (hD : NdAt P0 w0 H D ks) (hz : ks.length < sizeLine) (hk : KyT H k (.ref b)) (hd8 : k.depth ≤ 8) (ry : RelV (.ref b) u)
    (h : ∀ s' n, NdAt P0 w0 (upd H D n) D (if k ∈ ks then ks else ks ++ [k]) → Inv X pins σ (upd H D n) s' → Q () s') : wpAny (model X.prog X.w) X.A (dictSet D u r) Q E s := by
  subst hP hw
  obtain ⟨xs, e, rr⟩ := hD
  cases ry
  obtain ⟨z1, z2, dd⟩ := nd_raw I e rr
  have hroom : (nestedKind X.prog X.w).room X.A := by
    show X.A.units + 8 < cLine
    omega
  refine wpAny_dictSet_heap (v := r) (hsz := z2) hroom ⟨key_is I hk rfl, hd8⟩ dd fun h' dd' hs => ?_
  obtain ⟨ob, es, ep, hq, h2, h3, h4, _, h5⟩ := dd'
  have t : TupS H (upd H D (NdO X.prog X.w D (storedH xs k b r))) := nd_tup e
  have r2 := (rr.put (v := r) hd8 hk).mono t
  have hl' : (storedH xs k b r).length ≤ sizeLine := by
    rw [r2.len]
    split
    · omega
    · rw [List.length_append, List.length_singleton]
      omega
  exact h _ _ ⟨_, upd_same, r2⟩ (d_write I (by rw [e]; exact True.intro) hs ⟨ob, hq⟩ (ndO_ok ⟨z1, hl', ob, es, ep, hq, h2, h3, h4, h5⟩))
section
variable {X : Cx}
def tDcN (P : Program) (w : World) (wi : TI) (g : TG) (tt : TT) (tk tv : TE) (vs : List Nat) : TE := fun σ H Q => wi σ H fun J H1 => ∀ D, H1 D = none → ∀ n0, NdAt P w (upd H1 D n0) D [] → ∃ W : Nat → Nat → Hp → Prop, (∃ m, W 0 m (upd H1 D n0)) ∧ ∀ i m H, W i m H →
  (J.stop i H ∧ Q (.ref D) H) ∨ (J.go i H ∧ ∃ Nx : Hp → Prop, (∀ H', Nx H' → ∃ m', m' < m ∧ W (i + 1) m' H') ∧ ∀ x H', J.yld i H x H' → g x (wipe σ vs) H' fun σ2 H2 => wipe σ2 vs = wipe σ vs ∧ tt σ2 H2 fun b H3 =>
    if b = true then tk σ2 H3 fun y H4 => tv σ2 H4 fun z H5 => ∃ (k : NestedKey) (ks : List NestedKey), (∃ b, y = .ref b) ∧ KyT H5 k y ∧ k.depth ≤ 8 ∧ NdAt P w H5 D ks ∧ ks.length < sizeLine ∧ ∀ n, NdAt P w (upd H5 D n) D (if k ∈ ks then ks else ks ++ [k]) → Nx (upd H5 D n) else Nx H3)
theorem dcN_core {pins : List (Addr × Obj)} {s : Shared} {σ : L2.St} {H : Hp} {Q : VK} {kx vx tg iter : Expr} {ifs : List Expr} {scope : Scope} {own : List (Str × Nat)} {pos pos' : Pos} {wi : TI} {g : TG} {tt : TT} {tk tv : TE} {use : Option (Value → Sem Unit)} {Qf : Value → Shared → Prop}
    (hu : X.A.units + 64 < cLine) (hc : X.calm = true) (hN : X.N.Nodup) (I : Inv X pins σ H s) (hi : PI X tg iter wi) (ok : BlkOk X.N X.env.scope scope own)
    (hg : ∀ (s : Shared) (H : Hp) (C : Addr) (cl : List (Str × Addr)) (fp : List Addr), PG (X.blk s H scope (compEnvC scope cl C X.env) fp) tg g) (ht : ∀ (s : Shared) (H : Hp) (C : Addr) (cl : List (Str × Addr)) (fp : List Addr), PTs (X.blk s H scope (compEnvC scope cl C X.env) fp) ifs tt)
    (hk : ∀ (s : Shared) (H : Hp) (C : Addr) (cl : List (Str × Addr)) (fp : List Addr), PE (X.blk s H scope (compEnvC scope cl C X.env) fp) kx tk)
    (he : ∀ (s : Shared) (H : Hp) (C : Addr) (cl : List (Str × Addr)) (fp : List Addr), PE (X.blk s H scope (compEnvC scope cl C X.env) fp) vx tv) (hs : ∀ x, foldedSetIterable iter X.env x = pure x)
    (h : tDcN X.prog X.w wi g tt tk tv (own.map (·.2)) σ H Q)
    (hRR : ∀ D C s' m H', Inv X pins σ H' s' → Q (.ref D) H' → s'.heap.Ns C m → FpOk X pins H' C → compPost (model X.prog X.w) X.A X.xe use Qf (.ref D) C (.ok .next) s') :
    wpAny (model X.prog X.w) X.A (comprehension (.DictComp kx vx [⟨tg, iter, ifs, 0⟩] scope pos) scope X.env pos' newDict false (eval iter X.env) use) Qf X.xe s := by
  have hfree : ∀ y ∈ scope.names, y.2 = .free → ∃ c, X.env.cells.lookup y.1 = some c := fun y hy e => by
    rcases ok.free y hy e with k | k
    · exact I.ok.has _ (.inl k)
    · exact I.ok.has _ (.inr k)
  refine wpAny_comprehension_free (use := use) rfl hs (closure_ok hfree) ok.kind (fun y hy e => by rw [ok.uniq y hy, e])
    (thn (hi.run pins s σ H _ I h) fun xv s1 hx => thn hx fun itv s2 h2 => ?_)
  obtain ⟨it, fp, tn, J, H2, e, I2, T, st2, f2, q⟩ := h2
  subst e
  refine wpAny_newObj_type (newEnv_comp ?_)
  generalize hD : s2.heap.objs.size = D
  have hDn : H2 D = none := I2.hok.fresh (Nat.le_of_eq hD)
  obtain ⟨W, ⟨m0, w0⟩, turn⟩ := q D hDn (NdO X.prog X.w D []) ⟨[], upd_same, .nil⟩
  generalize hs3 : ({ s2 with heap := s2.heap.push { cls := .type "dict", data := .dict #[] } } : Shared) = s3
  have I3 : Inv X pins σ (upd H2 D (NdO X.prog X.w D [])) s3 := by
    rw [← hs3]
    refine I2.laid (t' := s2.toks) (fun b o e => Heap.get?_push_of_some _ e) (Nat.le_of_eq hD) ?_
    rw [← hD]
    exact ndO_ok (nd_empty s2.heap I2.big)
  have h3 : s3.heap = s2.heap.push { cls := .type "dict", data := .dict #[] } := by rw [← hs3]
  have sz : ∀ b ∈ fp, b < s2.heap.objs.size := fun b hb => by
    obtain ⟨o, e, _⟩ := T.obj _ _ st2 b hb
    exact Heap.lt_size e
  have f3 : ∀ b ∈ fp, FpOk X pins (upd H2 D (NdO X.prog X.w D [])) b ∧ b < s3.heap.objs.size := fun b hb => by
    have hlt := sz b hb
    refine ⟨⟨?_, (f2 b hb).2⟩, by rw [h3, Heap.size_push]; exact Nat.lt_succ_of_lt hlt⟩
    rw [upd_ne (by rw [← hD]; exact Nat.ne_of_lt hlt)]
    exact (f2 b hb).1
  have st3 : tn 0 s3.heap := T.keep _ _ _ st2 fun b _ o e => by rw [h3]; exact Heap.get?_push_of_some _ e
  have I4 := block_start I3 ok hN f3
  have pg := hg s3 (upd H2 D (NdO X.prog X.w D [])) s3.heap.objs.size (cellsFrom (s3.heap.objs.size + 1) scope.names (cloFrom X.env.cells scope.names [])) fp
  have pt := ht s3 (upd H2 D (NdO X.prog X.w D [])) s3.heap.objs.size (cellsFrom (s3.heap.objs.size + 1) scope.names (cloFrom X.env.cells scope.names [])) fp
  have pk := hk s3 (upd H2 D (NdO X.prog X.w D [])) s3.heap.objs.size (cellsFrom (s3.heap.objs.size + 1) scope.names (cloFrom X.env.cells scope.names [])) fp
  have pe := he s3 (upd H2 D (NdO X.prog X.w D [])) s3.heap.objs.size (cellsFrom (s3.heap.objs.size + 1) scope.names (cloFrom X.env.cells scope.names [])) fp
  show codeAny _ _ (.compStart (.DictComp kx vx [⟨tg, iter, ifs, 0⟩] scope pos) 0 (.ref it) (.ref D) (compEnvC scope (cellsFrom (s3.heap.objs.size + 1) scope.names (cloFrom X.env.cells scope.names [])) s3.heap.objs.size X.env)) (compPost (model X.prog X.w) X.A X.xe use Qf (.ref D) s3.heap.objs.size) { s3 with heap := pushCells (s3.heap.push { cls := .type "dict", data := .dict #[] }) scope.names }
  have nfp : ∀ b ∈ fp, (upd H2 D (NdO X.prog X.w D [])) b = none := fun b hb => (f3 b hb).1.1
  generalize hce : compEnvC scope (cellsFrom (s3.heap.objs.size + 1) scope.names (cloFrom X.env.cells scope.names [])) s3.heap.objs.size X.env = ce at I4 pg pt pk pe ⊢
  have cL : ce.locals = s3.heap.objs.size := by subst hce; rfl
  generalize hH3 : upd H2 D (NdO X.prog X.w D []) = H3 at I3 I4 pg pt pk pe w0 nfp f3
  generalize hs4 : ({ s3 with heap := pushCells (s3.heap.push { cls := .type "dict", data := .dict #[] }) scope.names } : Shared) = s4 at I4 ⊢
  have st4 : tn 0 s4.heap := T.keep _ _ _ st3 fun b _ o e => by rw [← hs4]; exact pushCells_keeps _ _ _ _ (Heap.get?_push_of_some _ e)
  have stat : ∀ {σ' : L2.St} {H' : Hp} {s' : Shared}, Inv (X.blk s3 H3 scope ce fp) [] σ' H' s' → (∀ b ∈ fp, H' b = none) → ∀ b ∈ fp, FpOk (X.blk s3 H3 scope ce fp) [] H' b := fun {σ' H' s'} I' hn b hb =>
    ⟨hn b hb, (I'.ok.exf b hb).1, I'.ok.exfs b hb, .inl hb, fun x c e => (I'.ok.exf b hb).2 x c e, fun p hp => absurd (show p ∈ ([] : List (Addr × Obj)) ++ [] from hp) (by simp)⟩
  have loop : codeAny (model X.prog X.w) X.A (.compLoop (.DictComp kx vx [⟨tg, iter, ifs, 0⟩] scope pos) 0 (.ref it) (.ref D) ce) (compPost (model X.prog X.w) X.A X.xe use Qf (.ref D) s3.heap.objs.size) s4 := by
    refine compLoop_anyD (fun n s' => ∃ i H', Inv (X.blk s3 H3 scope ce fp) [] (wipe σ (own.map (·.2))) H' s' ∧ tn i s'.heap ∧ (∀ b ∈ fp, H' b = none) ∧ W i n H') ?_ m0 ⟨0, H3, I4, st4, nfp, w0⟩
    rintro n s5 ⟨i, H5, I5, st5, n5, w5⟩
    rcases turn i n H5 w5 with ⟨stop, qq⟩ | ⟨go, Nx, hNx, step⟩
    · have td := T.done (X.blk s3 H3 scope ce fp) rfl rfl rfl hc i [] s5 _ H5 (fun _ _ => False) I5 (stat I5 n5) st5 stop
      refine thnF td fun r s6 ⟨hr, I6⟩ => ?_
      subst hr
      have I7 : Inv X pins σ H5 s6 := I3.call' (ch := fp) I6.os I6.base I6.hok I6.bare fun b hb => ⟨(f3 b hb).1.2.2.2.1, (f3 b hb).1.2.1, (f3 b hb).1.2.2.2.2.1, (f3 b hb).1.2.2.2.2.2⟩
      have nC : H5 s3.heap.objs.size = none := by
        have z : H5 ce.locals = none := I6.free
        rw [cL] at z
        exact z
      obtain ⟨m, hn, _⟩ := I6.loc
      have hn : s6.heap.Ns ce.locals m := hn
      rw [cL] at hn
      exact hRR D s3.heap.objs.size s6 m H5 I7 qq hn (I3.fpOk (Nat.le_refl _) nC)
    · have ti := T.item (X.blk s3 H3 scope ce fp) rfl rfl rfl hc i [] s5 _ H5 (fun _ _ => False) I5 (stat I5 n5) st5 go
      refine thnF ti fun r s6 ⟨u, hr, h6⟩ => ?_
      subst hr
      refine thnF h6 fun _ s7 ⟨x, H7, I7, r7, y7, st7, n7⟩ => ?_
      have I7' := I7.pinned (stat I7 n7) (T.obj _ _ st7)
      refine thnF (pg.run _ s7 _ H7 x u _ I7' r7 (step x H7 y7)) fun _ s8 ⟨σ8, H8, I8, hw8, q8⟩ => ?_
      refine thnF (pt.run _ s8 σ8 H8 _ I8 q8) fun b s9 ⟨H9, I9, q9⟩ => ?_
      have fin : ∀ {s' : Shared} {H' : Hp}, Inv (X.blk s3 H3 scope ce fp) ([] ++ pinsAt fp s7.heap) σ8 H' s' → Nx H' → ∃ m, m < n ∧ ∃ i H', Inv (X.blk s3 H3 scope ce fp) [] (wipe σ (own.map (·.2))) H' s' ∧ tn i s'.heap ∧ (∀ b ∈ fp, H' b = none) ∧ W i m H' := fun {s' H'} I' nx => by
        obtain ⟨m', hm, w'⟩ := hNx H' nx
        have pin' : ∀ b ∈ fp, ∀ o, s7.heap.get? b = some o → s'.heap.get? b = some o ∧ H' b = none := fun b hb o e =>
          let z := I'.pin (b, o) (List.mem_append_right _ (List.mem_append_right _ (mem_pinsAt hb e)))
          ⟨z.1, z.2.1⟩
        have hl : (wipe σ (own.map (·.2))).length = σ8.length := by rw [← hw8, wipe_length]
        refine ⟨m', hm, i + 1, H', (I'.unpinned (pins := [])).weak hl (fun j v e => ?_), T.keep _ _ _ st7 fun b hb o e => (pin' b hb o e).1, fun b hb => ?_, w'⟩
        · rw [← hw8] at e
          exact (wipe_some e).1
        · obtain ⟨o, e, _⟩ := T.obj _ _ st7 b hb
          exact (pin' b hb o e).2
      cases b with
      | false =>
        simp only [Bool.false_eq_true, if_false] at q9 ⊢
        exact fin I9 q9
      | true =>
        simp only [if_true] at q9 ⊢
        refine thnF (pk.run _ s9 σ8 H9 _ I9 q9) fun z s10 ⟨yk, H10, I10, r10, q10⟩ => ?_
        refine thnF (pe.run _ s10 σ8 H10 _ I10 q10) fun z2 s11 ⟨yv, H11, I11, r11, k, ks, ⟨b, eb⟩, hk11, hd11, hD11, hz11, nx⟩ => ?_
        subst eb
        exact nd_dictSet (X := X.blk s3 H3 scope ce fp) (P0 := X.prog) (w0 := X.w) rfl rfl hu I11 hD11 hz11 hk11 hd11 r10 fun s12 n12 a12 I12 => fin I12 (nx n12 a12)
  exact codeAny_compStart_dict loop (T.self X.A 0 _ _ _ st4 loop)
theorem pe_dcN {kx vx tg iter : Expr} {ifs : List Expr} {scope : Scope} {own : List (Str × Nat)} {pos : Pos} {wi : TI} {g : TG} {tt : TT} {tk tv : TE} (hu : X.A.units + 64 < cLine) (hc : X.calm = true) (hN : X.N.Nodup) (hi : PI X tg iter wi) (ok : BlkOk X.N X.env.scope scope own)
    (hg : ∀ (s : Shared) (H : Hp) (C : Addr) (cl : List (Str × Addr)) (fp : List Addr), PG (X.blk s H scope (compEnvC scope cl C X.env) fp) tg g) (ht : ∀ (s : Shared) (H : Hp) (C : Addr) (cl : List (Str × Addr)) (fp : List Addr), PTs (X.blk s H scope (compEnvC scope cl C X.env) fp) ifs tt)
    (hk : ∀ (s : Shared) (H : Hp) (C : Addr) (cl : List (Str × Addr)) (fp : List Addr), PE (X.blk s H scope (compEnvC scope cl C X.env) fp) kx tk)
    (he : ∀ (s : Shared) (H : Hp) (C : Addr) (cl : List (Str × Addr)) (fp : List Addr), PE (X.blk s H scope (compEnvC scope cl C X.env) fp) vx tv) (hs : ∀ x, foldedSetIterable iter X.env x = pure x := by intro _; rfl) :
    PE X (.DictComp kx vx [⟨tg, iter, ifs, 0⟩] scope pos) (tDcN X.prog X.w wi g tt tk tv (own.map (·.2))) := by
  refine ⟨fun pins s σ H Q I h => ?_⟩
  rw [arm_eval_DictComp]
  refine dcN_core hu hc hN I hi ok hg ht hk he hs h fun D C s' m H' I' q hn f => ⟨m, hn, fun h'' sb => ?_⟩
  obtain ⟨f0, f1, f2, f3, f4, f5⟩ := f
  exact ⟨.ref D, H', I'.turned (t' := s'.toks) (fun b o hb e => (sb.2 b hb).trans e) f0 f1 f3 f4 f5, rfl, q⟩
theorem dcN_it {P : Program} {w : World} {J : It} {n : Nat} {G : Hp → Prop} {Y : Nat → Hp → V → Hp → Prop} (wk : Walk J n G Y) {g : TG} {tt : TT} {tk tv : TE} {vs : List Nat} {σ : L2.St} {H1 : Hp} {D : Addr} {n0 : HO} {Qd : Hp → Prop} (Pv : Nat → Hp → Prop) (h0 : Pv 0 (upd H1 D n0)) (hG : ∀ i H, i ≤ n → Pv i H → G H)
    (hs : ∀ i x H H', i < n → Pv i H → Y i H x H' → g x (wipe σ vs) H' fun σ2 H2 => wipe σ2 vs = wipe σ vs ∧ tt σ2 H2 fun b H3 =>
      if b = true then tk σ2 H3 fun y H4 => tv σ2 H4 fun z H5 => ∃ (k : NestedKey) (ks : List NestedKey), (∃ b, y = .ref b) ∧ KyT H5 k y ∧ k.depth ≤ 8 ∧ NdAt P w H5 D ks ∧ ks.length < sizeLine ∧ ∀ n, NdAt P w (upd H5 D n) D (if k ∈ ks then ks else ks ++ [k]) → Pv (i + 1) (upd H5 D n) else Pv (i + 1) H3) (hd : ∀ H, Pv n H → Qd H) :
    ∃ W : Nat → Nat → Hp → Prop, (∃ m, W 0 m (upd H1 D n0)) ∧ ∀ i m H, W i m H →
      (J.stop i H ∧ Qd H) ∨ (J.go i H ∧ ∃ Nx : Hp → Prop, (∀ H', Nx H' → ∃ m', m' < m ∧ W (i + 1) m' H') ∧ ∀ x H', J.yld i H x H' → g x (wipe σ vs) H' fun σ2 H2 => wipe σ2 vs = wipe σ vs ∧ tt σ2 H2 fun b H3 =>
        if b = true then tk σ2 H3 fun y H4 => tv σ2 H4 fun z H5 => ∃ (k : NestedKey) (ks : List NestedKey), (∃ b, y = .ref b) ∧ KyT H5 k y ∧ k.depth ≤ 8 ∧ NdAt P w H5 D ks ∧ ks.length < sizeLine ∧ ∀ n, NdAt P w (upd H5 D n) D (if k ∈ ks then ks else ks ++ [k]) → Nx (upd H5 D n) else Nx H3) := by
  refine ⟨fun i m H => m = n - i ∧ i ≤ n ∧ Pv i H, ⟨n, by simp, Nat.zero_le _, h0⟩, ?_⟩
  rintro i m H ⟨rfl, hi, p⟩
  have q := hG i H hi p
  by_cases hlt : i < n
  · exact .inr ⟨wk.goes i H hlt q, Pv (i + 1), fun H' p' => ⟨n - (i + 1), by omega, rfl, hlt, p'⟩, fun x H' y => hs i x H H' hlt p (wk.yields i H x H' hlt q y)⟩
  · have e : i = n := by omega
    subst e
    exact .inl ⟨wk.stops H q, hd H p⟩
end
end K54
set_option Elab.async false
set_option linter.all false
set_option maxRecDepth 100000
set_option maxHeartbeats 4000000
set_option pp.maxSteps 800
namespace K54
open PySem PySem.Spec PyProof.Rows L2
section
variable {X : Cx} {K : PySem.W.Frag}
theorem ix_listK (h : X.K = K) : IxR X (rIxL K) := h ▸ ix_list
theorem ix_tupK (h : X.K = K) : IxR X (rIxT K) := h ▸ ix_tup
theorem op_catAK (h : X.K = K) : OpR X (binaryOp .Add) (rCatA K) := h ▸ op_catA
theorem call_len_seqK (h : X.K = K) : CallR X (.builtin "len") (fun xs H Q => ∃ p ys, xs = [.ref p] ∧ (SqL K H p ys ∨ SqT K H p ys) ∧ Q (.int ys.length) H) := h ▸ call_len_seq
theorem call_list_ofK (h : X.K = K) : CallR X (.type "list") (fun xs H Q => ∃ p ys, xs = [.ref p] ∧ (SqL K H p ys ∨ SqT K H p ys) ∧ ∀ l, H l = none → Q (.ref l) (upd H l (.lst ys))) := h ▸ call_list_of
theorem call_tuple_ofK (h : X.K = K) : CallR X (.type "tuple") (fun xs H Q => ∃ p ys, xs = [.ref p] ∧ ((SqL K H p ys ∧ ∀ l, H l = none → Q (.ref l) (upd H l (.tup ys))) ∨ (SqT K H p ys ∧ Q (.ref p) H))) := h ▸ call_tuple_of
theorem pe_omK {CX : CXT} {k : Nat} {ps : List Str} {sp : Sp} {E : XK} {m : Str} {C : Str} {pos apos : Pos} {e o : Expr} {es : List Expr} {ta : TE} {t : TA} {pl : Sem Bool} (hK : X.K = K) (D : Def X.prog X.w X.K X.mg X.base CX k (C, some m) ps sp) (hr : Room k X.A) (c : Cls X.K (He.ga X.K C)) (hm : Meth X.K (He.ga X.K C) m (He.ma X.K (He.ga X.K C) m)) (hx : Passes CX X E) (ho : PE X o ta) (ha : PA X (e :: es) t)
    (hst : starEach (e :: es) X.env = (false, eval e X.env) :: starEach es X.env := by rfl) (hpl : (backTo pos (starEach es X.env)).any (·.1) = false := by rfl)
    (ht : eval (.Call (.Attribute o m apos) (e :: es) [] pos) X.env = (do
      let ov ← eval o X.env
      standAt apos.atName
      let (f, first) ← holding [ov] (getMethod ov m pl)
      callWith pos f first (backTo pos (starEach (e :: es) X.env)) (backToKw pos (keywordEach [] X.env))) := by rfl) :
    PE X (.Call (.Attribute o m apos) (e :: es) [] pos) (tMeth (He.ga K C) m sp [] E ta t) := hK ▸ pe_om D hr c hm hx ho ha hst hpl ht
end
end K54
set_option Elab.async false
set_option linter.all false
set_option maxRecDepth 100000
set_option maxHeartbeats 4000000
set_option pp.maxSteps 800
namespace K54
open PySem PySem.Spec PyProof.Rows L2
section
variable {X : Cx}
def rListN (P : Program) (w : World) : List V → Hp → VK → Prop := fun vs H Q => ∃ (d : Addr) (ks : List NestedKey), vs = [.ref d] ∧ NdAt P w H d ks ∧ ∀ p as, H p = none → RefsOf H ks as → Q (.ref p) (upd H p (.lst (as.map V.ref)))
theorem cr_listN (hc : X.calm = true) : CallR X (.type "list") (rListN X.prog X.w) := by
  intro pins s σ H vs us Q I r h
  obtain ⟨d, ks, rfl, ⟨xs, e, rel⟩, q⟩ := h
  obtain ⟨u, rfl, rx⟩ := vals1 r
  obtain rfl : u = .ref d := rx
  obtain ⟨z1, z2, dd⟩ := nd_raw I e rel
  obtain ⟨es, ep, raw, hsz, hes⟩ := dd.raw
  refine PySem.W.kdl_call (KdlSrc.rawDict (es := es) (ep := ep) z1) (I.ok.hd hc) raw (by rw [hsz]; exact z2) fun h' tk acc c' hk hD hacc => ?_
  have hall : acc.toList = (xs.map fun q => q.2.1).map Value.ref := by
    refine List.ext_getElem? fun i => ?_
    by_cases hi : i < es.size
    · obtain ⟨y, hy, hy1, _⟩ := hes i hi
      have h1 : i < acc.size := by rw [hacc.1]; exact hi
      obtain ⟨hi', hv⟩ := hacc.2 i acc[i] (by simp [h1])
      rw [List.getElem?_map, List.getElem?_map, hy, Array.getElem?_toList, Array.getElem?_eq_getElem h1, hv, hy1] <;> rfl
    · have h1 : ¬ i < acc.size := by rw [hacc.1]; exact hi
      have n1 : xs[i]? = none := List.getElem?_eq_none_iff.mpr (by omega)
      have n2 : acc.toList[i]? = none := List.getElem?_eq_none_iff.mpr (by rw [Array.length_toList]; omega)
      rw [List.getElem?_map, List.getElem?_map, n1, n2] <;> rfl
  have hrefs : RefsOf H ks (xs.map fun q => q.2.1) := by
    have go : ∀ {ks : List NestedKey} {xs : List (NestedKey × Addr × Value)}, NdRel H ks xs → RefsOf H ks (xs.map fun q => q.2.1) := by
      intro ks xs r
      induction r with
      | nil => exact .nil
      | cons z t ih => exact .cons z.2.2 ih
    exact go rel
  have hp : H s.heap.objs.size = none := I.hok.fresh (Nat.le_refl _)
  have hlen : (xs.map fun q => q.2.1).length ≤ sizeLine := by rw [List.length_map]; exact z2
  refine ⟨.ref s.heap.objs.size, _, I.laid (t' := tk) (o := .lst ((xs.map fun q => q.2.1).map V.ref)) hk (Nat.le_refl _) ⟨by rw [List.length_map]; exact hlen, (xs.map fun q => q.2.1).map Value.ref, c', refs_vals _, ?_⟩, rfl, q _ _ hp hrefs⟩
  rw [hD, ← hall, Array.toArray_toList]
end
end K54
set_option Elab.async false
set_option linter.all false
set_option maxRecDepth 100000
set_option maxHeartbeats 4000000
set_option pp.maxSteps 800
namespace K54
open PySem PySem.Spec PyProof.Rows L2
mutual
inductive Dv (H : Hp) : V → PyData → Prop
  | non : Dv H .non .none
  | bl (b : Bool) : Dv H (.bl b) (.bool b)
  | int (i : Int) : Dv H (.int i) (.int i)
  | str (x : Str) : Dv H (.str x) (.str x)
  | lst {a : Addr} {xs : List V} {ds : List PyData} : H a = some (.lst xs) → DvAll H xs ds → Dv H (.ref a) (.list ds)
  | tup {a : Addr} {xs : List V} {ds : List PyData} : H a = some (.tup xs) → DvAll H xs ds → Dv H (.ref a) (.tuple ds)
inductive DvAll (H : Hp) : List V → List PyData → Prop
  | nil : DvAll H [] []
  | cons {v : V} {vs : List V} {d : PyData} {ds : List PyData} : Dv H v d → DvAll H vs ds → DvAll H (v :: vs) (d :: ds)
end
mutual
def noL : PyData → Bool
  | .list _ => false
  | .tuple ds => noLs ds
  | .dict _ => false
  | .none => true
  | .bool _ => true
  | .int _ => true
  | .str _ => true
def noLs : List PyData → Bool
  | [] => true
  | d :: ds => noL d && noLs ds
end
mutual
theorem Dv.mono {H H' : Hp} (s : Same H H') : ∀ {v : V} {d : PyData}, Dv H v d → Dv H' v d
  | _, _, .non => .non
  | _, _, .bl b => .bl b
  | _, _, .int i => .int i
  | _, _, .str i => .str i
  | _, _, .lst e r => .lst (s _ _ e) (DvAll.mono s r)
  | _, _, .tup e r => .tup (s _ _ e) (DvAll.mono s r)
theorem DvAll.mono {H H' : Hp} (s : Same H H') : ∀ {v : List V} {d : List PyData}, DvAll H v d → DvAll H' v d
  | _, _, .nil => .nil
  | _, _, .cons a b => .cons (Dv.mono s a) (DvAll.mono s b)
end
mutual
theorem Dv.monoT {H H' : Hp} (t : TupS H H') : ∀ {d : PyData} {v : V}, noL d = true → Dv H v d → Dv H' v d
  | _, _, _, .non => .non
  | _, _, _, .bl b => .bl b
  | _, _, _, .int i => .int i
  | _, _, _, .str i => .str i
  | _, _, n, .lst e r => by
    unfold noL at n
    cases n
  | _, _, n, .tup e r => .tup (t _ _ e) (DvAll.monoT t (by unfold noL at n; exact n) r)
theorem DvAll.monoT {H H' : Hp} (t : TupS H H') : ∀ {d : List PyData} {v : List V}, noLs d = true → DvAll H v d → DvAll H' v d
  | _, _, _, .nil => .nil
  | _, _, n, .cons a b => by
    unfold noLs at n
    rw [Bool.and_eq_true] at n
    exact .cons (Dv.monoT t n.1 a) (DvAll.monoT t n.2 b)
end
mutual
theorem Dv.dp {K : PySem.W.Frag} {H : Hp} : ∀ {v : V} {d : PyData}, Dv H v d → Dp K H v d
  | _, _, .non => .non
  | _, _, .bl b => .bl b
  | _, _, .int i => .int i
  | _, _, .str i => .str i
  | _, _, .lst e r => .lst (SqL.of e) (DvAll.dp r)
  | _, _, .tup e r => .tup (SqT.of e) (DvAll.dp r)
theorem DvAll.dp {K : PySem.W.Frag} {H : Hp} : ∀ {v : List V} {d : List PyData}, DvAll H v d → DpAll K H v d
  | _, _, .nil => .nil
  | _, _, .cons a b => .cons (Dv.dp a) (DvAll.dp b)
end
theorem DvAll.len {H : Hp} : ∀ {vs : List V} {ds : List PyData}, DvAll H vs ds → vs.length = ds.length
  | _, _, .nil => rfl
  | _, _, .cons _ b => by rw [List.length_cons, List.length_cons, DvAll.len b]
theorem DvAll.get {H : Hp} {vs : List V} {ds : List PyData} (h : DvAll H vs ds) : ∀ {i : Nat} {d : PyData}, ds[i]? = some d → ∃ v, vs[i]? = some v ∧ Dv H v d := by
  induction vs generalizing ds with
  | nil =>
    intro i d e
    cases h
    rw [List.getElem?_nil] at e
    cases e
  | cons v vs ih =>
    intro i d e
    cases h with
    | cons a b =>
      cases i with
      | zero =>
        rw [List.getElem?_cons_zero] at e
        cases e
        exact ⟨_, rfl, a⟩
      | succ i =>
        rw [List.getElem?_cons_succ] at e ⊢
        exact ih b e
theorem DvAll.at {H : Hp} {vs : List V} {ds : List PyData} (h : DvAll H vs ds) {i : Nat} {v : V} (e : vs[i]? = some v) : ∃ d, ds[i]? = some d ∧ Dv H v d := by
  have hi : i < ds.length := by
    rw [← h.len]
    exact (List.getElem?_eq_some_iff.mp e).1
  obtain ⟨u, hu, r⟩ := h.get (List.getElem?_eq_getElem hi)
  rw [e] at hu
  cases hu
  exact ⟨_, List.getElem?_eq_getElem hi, r⟩
theorem DvAll.append {H : Hp} : ∀ {vs ws : List V} {ds es : List PyData}, DvAll H vs ds → DvAll H ws es → DvAll H (vs ++ ws) (ds ++ es)
  | _, _, _, _, .nil, q => q
  | _, _, _, _, .cons a b, q => .cons a (DvAll.append b q)
theorem DvAll.ints {H : Hp} : ∀ (ns : List Int), DvAll H (ns.map V.int) (ns.map PyData.int)
  | [] => .nil
  | n :: ns => .cons (.int n) (DvAll.ints ns)
mutual
theorem KyT.dv {H : Hp} : ∀ {k : NestedKey} {v : V}, KyT H k v → Dv H v k.data
  | _, _, .num i => .int i
  | _, _, .tup e r => .tup e (KyTs.dv r)
theorem KyTs.dv {H : Hp} : ∀ {ks : List NestedKey} {vs : List V}, KyTs H ks vs → DvAll H vs (NestedKey.datas ks)
  | _, _, .nil => .nil
  | _, _, .cons a b => .cons (KyT.dv a) (KyTs.dv b)
end
def tn : PyData → String
  | .none => "NoneType"
  | .bool _ => "bool"
  | .int _ => "int"
  | .str _ => "str"
  | .list _ => "list"
  | .tuple _ => "tuple"
  | .dict _ => "dict"
def isTn (T n : String) : Bool := T == n || (T == "int" && n == "bool")
def isT (T : String) (d : PyData) : Bool := isTn T (tn d)
theorem Dv.ty {K : PySem.W.Frag} {H : Hp} {v : V} {d : PyData} (h : Dv H v d) : TyOf K H v (.type (tn d)) := by
  cases h with
  | non => exact .non
  | bl b => exact .bl b
  | int i => exact .int i
  | str x => exact .str x
  | lst e r => exact .lst e
  | tup e r => exact .tup e
def tyNames : List String := ["int", "bool", "str", "list", "tuple"]
def dNames : List String := ["NoneType", "bool", "int", "str", "list", "tuple"]
theorem kit_all : ∀ n ∈ dNames, ∀ T ∈ tyNames, kitB n T = some (isTn T n) := by decide +kernel
theorem Dv.named {H : Hp} {v : V} {d : PyData} (h : Dv H v d) : tn d ∈ dNames := by
  unfold dNames
  cases h <;> simp [tn]
def rIsD : List V → Hp → VK → Prop := fun xs H Q => ∃ (x : V) (d : PyData) (T : String), xs = [x, .ty T] ∧ T ∈ tyNames ∧ Dv H x d ∧ Q (.bl (isT T d)) H
section
variable {X : Cx}
theorem call_isD : CallR X (.builtin "isinstance") rIsD := by
  intro pins s σ H xs us Q I r h
  obtain ⟨x, d, T, rfl, hT, hd, q⟩ := h
  exact call_isi pins s σ H _ us Q I r ⟨x, .ty T, .type (tn d), .type T, isT T d, rfl, .ty T, .base hd.ty, kit_ty (kit_all _ hd.named _ hT), q⟩
end
end K54
set_option Elab.async false
set_option linter.all false
set_option maxRecDepth 100000
set_option maxHeartbeats 4000000
set_option pp.maxSteps 800
namespace K54
open PySem PySem.Spec PyProof.Rows L2
def isInt : PyData → Bool
  | .int _ => true
  | _ => false
def isBelow (d : PyData) (b : Int) : Bool := match d with
  | .int i => decide (0 ≤ i) && decide (i < b)
  | _ => false
def isRow (d : PyData) (n : Int) (m : Nat) : Bool := match d with
  | .tuple ds => decide (ds.length = m) && ds.all fun x => isBelow x n
  | _ => false
theorem iteB {b : Bool} {A B : Prop} (h1 : b = true → A) (h2 : b = false → B) : if b = true then A else B := by
  cases b with
  | true => rw [if_pos rfl]; exact h1 rfl
  | false => rw [if_neg Bool.false_ne_true]; exact h2 rfl
theorem iteFb {b : Bool} {A B : Prop} (h : b = false) (x : B) : if b = true then A else B := by
  rw [if_neg (by rw [h]; exact Bool.false_ne_true)]
  exact x
theorem iteTb {b : Bool} {A B : Prop} (h : b = true) (x : A) : if b = true then A else B := by
  rw [if_pos h]
  exact x
theorem all_take {α : Type} {ds : List α} {i : Nat} {d : α} {f : α → Bool} (h : (ds.take i).all f = true) (e : ds[i]? = some d) : (ds.take (i + 1)).all f = f d := by
  rw [List.take_add_one, List.all_append, h, e]
  simp
theorem all_at {α : Type} {ds : List α} {i : Nat} {d : α} {f : α → Bool} (e : ds[i]? = some d) (h : f d = false) : ds.all f = false := by
  rw [List.all_eq_false]
  exact ⟨d, List.mem_of_getElem? e, by rw [h]; exact Bool.false_ne_true⟩
theorem iteF' {c A B : Prop} [Decidable c] (h : ¬ c) (b : B) : if c then A else B := by
  rw [if_neg h]
  exact b
theorem iteT' {c A B : Prop} [Decidable c] (h : c) (a : A) : if c then A else B := by
  rw [if_pos h]
  exact a
theorem ip_mul {X : Cx} : PIp X .Mult (fun x y H Q => ∃ i j, x = .int i ∧ y = .int j ∧ CMul i j ∧ Q (.int (i * j)) H) := by
  intro pins s σ H x y v u Q I r1 r2 h
  obtain ⟨i, j, e1, e2, c, q⟩ := h
  subst e1; subst e2
  obtain ⟨t, rfl⟩ := r1
  obtain ⟨t', rfl⟩ := r2
  exact AutoIntOps.imul_0 ⟨.int _, H, I.tok _, ⟨_, rfl⟩, q⟩ c.ok
variable {P : Program} {w : World} {K : PySem.W.Frag} {mg : Str → Option Value} {base : Heap}
def spInt : Sp := fun vs H Q _ => ∃ x d, vs = [x] ∧ Dv H x d ∧ Q (.bl (isInt d)) H
theorem sc_is_integer : FnScope ["value"] ["value"] (defScope s_is_integer) := ⟨rfl, rfl, rfl, by decide +kernel, rfl, by decide +kernel, by decide +kernel⟩
theorem d_is_integer (T : Txt w K mg) : Def P w K mg base CX0 1 ("is_integer", none) ["value"] (spInt) := by
  refine Def.of0 (k := 0) T.f_is_integer sc_is_integer (fun _ _ _ _ _ _ us hl => match us, hl with | [_], _ => rfl) (fun vs H Q E h => ?_) (fun cdv A outer s H vs Q E hr h => ?_)
  · obtain ⟨x, d, rfl, _⟩ := h
    rfl
  · obtain ⟨x, d, rfl, hd, q⟩ := h
    refine ⟨_, ((pss_one (ps_ret (pe_and (pe_b call_isD T.b_isinstance (pa_cons (pv 0) (pa_cons (pe_tyv (T := "int") T.b_int) pa_nil))) (pe_one (pe_not (pe_b call_isD T.b_isinstance (pa_cons (pv 0) (pa_cons (pe_tyv (T := "bool") T.b_bool) pa_nil))))))))), ?_⟩
    refine ⟨_, rfl, x, d, "int", rfl, by decide, hd, _, rfl, ?_⟩
    cases d <;> first | exact q | exact ⟨_, rfl, _, _, _, rfl, by decide, hd, _, rfl, q⟩
def spBelow : Sp := fun vs H Q _ => ∃ x d b, vs = [x, .int b] ∧ Dv H x d ∧ Q (.bl (isBelow d b)) H
theorem sc_is_below : FnScope ["value", "bound"] ["value", "bound"] (defScope s_is_below) := ⟨rfl, rfl, rfl, by decide +kernel, rfl, by decide +kernel, by decide +kernel⟩
theorem d_is_below (T : Txt w K mg) : Def P w K mg base CX0 2 ("is_below", none) ["value", "bound"] (spBelow) := by
  refine Def.of0 (k := 1) T.f_is_below sc_is_below (fun _ _ _ _ _ _ us hl => match us, hl with | [_, _], _ => rfl) (fun vs H Q E h => ?_) (fun cdv A outer s H vs Q E hr h => ?_)
  · obtain ⟨x, d, b, rfl, _⟩ := h
    rfl
  · obtain ⟨x, d, b, rfl, hd, q⟩ := h
    refine ⟨_, ((pss_one (ps_ret (pe_and (pe_f (d_is_integer T) (hr.mono (by decide)) T.g_is_integer pass0 (pa_cons (pv 0) pa_nil)) (pe_one (pe_chain op_le op_lt pe_int (pv 0) (pv 1))))))), ?_⟩
    refine ⟨_, rfl, x, d, rfl, hd, _, rfl, ?_⟩
    cases hd with
    | int i =>
      refine ⟨_, rfl, 0, i, rfl, rfl, _, rfl, iteB (fun h0 => ⟨_, rfl, i, b, rfl, rfl, ?_⟩) (fun h0 => ?_)⟩
      · have q : Q (.bl (decide (0 ≤ i) && decide (i < b))) H := q
        rw [h0, Bool.true_and] at q
        exact q
      · have q : Q (.bl (decide (0 ≤ i) && decide (i < b))) H := q
        rw [h0, Bool.false_and] at q
        exact q
    | _ => exact q
def spPower : Sp := fun vs H Q _ => ∃ (b : Int) (m : Nat), vs = [.int b, .int m] ∧ 0 ≤ b ∧ b < 1000 ∧ m < 1000 ∧ Q (.int (b ^ m)) H
theorem sc_power : FnScope ["base", "exponent", "total", "_"] ["base", "exponent"] (defScope s_power) := ⟨rfl, rfl, rfl, by decide +kernel, rfl, by decide +kernel, by decide +kernel⟩
theorem d_power (T : Txt w K mg) : Def P w K mg base CX0 1 ("power", none) ["base", "exponent"] (spPower) := by
  refine Def.of0 (k := 0) T.f_power sc_power (fun _ _ _ _ _ _ us hl => match us, hl with | [_, _], _ => rfl) (fun vs H Q E h => ?_) (fun cdv A outer s H vs Q E hr h => ?_)
  · obtain ⟨b, m, rfl, _⟩ := h
    rfl
  · obtain ⟨b, m, rfl, hb, hb2, hm, q⟩ := h
    refine ⟨_, ((pss_cons (ps_set (i := 2) sc_power.nd rfl (Or.inl rfl) pe_int)
       (pss_cons (ps_for PassesOwn.never rfl (pi_range1 (by rfl) T.b_range (pa_cons (pv 1) pa_nil)) (pg_name (i := 3) sc_power.nd rfl (Or.inl rfl))
       (pss_one (ps_aug (i := 2) sc_power.nd rfl (Or.inl rfl) (pv 0) ip_mul)))
       (pss_one (ps_ret (pv 2)))))), ?_⟩
    refine ⟨_, rfl, m, rfl, by omega, by omega, for_range (n := m) (fun i σ H' => ∃ v, H' = H ∧ σ = [some (.int b), some (.int m), some (.int (b ^ i)), v]) ⟨_, rfl, by rw [Int.pow_zero]; rfl⟩ ?_ ?_⟩
    · rintro i σ H' hi ⟨v, rfl, rfl⟩
      refine ⟨_, rfl, _, rfl, _, _, rfl, rfl, .inr ⟨by omega, by omega⟩, some (.int (0 + (i : Nat))), rfl, ?_⟩
      rw [Int.pow_succ] <;> rfl
    · rintro σ H' ⟨v, rfl, rfl⟩
      exact ⟨_, rfl, q⟩
def spRow : Sp := fun vs H Q _ => ∃ x d n m, vs = [x, .int n, .int (m : Nat)] ∧ Dv H x d ∧ Q (.bl (isRow d n m)) H
theorem sc_is_row : FnScope ["value", "size", "many", "number"] ["value", "size", "many"] (defScope s_is_row) := ⟨rfl, rfl, rfl, by decide +kernel, rfl, by decide +kernel, by decide +kernel⟩
theorem d_is_row (T : Txt w K mg) : Def P w K mg base CX0 3 ("is_row", none) ["value", "size", "many"] (spRow) := by
  refine Def.of0 (k := 2) T.f_is_row sc_is_row (fun _ _ _ _ _ _ us hl => match us, hl with | [_, _, _], _ => rfl) (fun vs H Q E h => ?_) (fun cdv A outer s H vs Q E hr h => ?_)
  · obtain ⟨x, d, n, m, rfl, _⟩ := h
    rfl
  · obtain ⟨x, d, n, m, rfl, hd, q⟩ := h
    refine ⟨_, ((pss_cons (ps_if (PW.pt (pw_or (pt_not (pt_val (pe_b call_isD T.b_isinstance (pa_cons (pv 0) (pa_cons (pe_tyv (T := "tuple") T.b_tuple) pa_nil))))) (pw_or1 (pt_cmpR op_ne (pe_b call_len_seq T.b_len (pa_cons (pv 0) pa_nil)) (pv 2) (nomark _)))))
       (pss_one (ps_ret pe_bl))
       pss_nil)
       (pss_cons (ps_for PassesOwn.never rfl (pi_tup (pv 0)) (pg_name (i := 3) sc_is_row.nd rfl (Or.inl rfl))
       (pss_one (ps_if (pt_not (pt_val (pe_f (d_is_below T) (hr.mono (by decide)) T.g_is_below pass0 (pa_cons (pv 3) (pa_cons (pv 1) pa_nil)))))
       (pss_one (ps_ret pe_bl))
       pss_nil)))
       (pss_one (ps_ret pe_bl))))), ?_⟩
    refine ⟨_, rfl, x, d, "tuple", rfl, by decide, hd, _, rfl, ?_⟩
    cases hd with
    | @tup a xs ds e r =>
      refine iteF ⟨_, rfl, a, xs, rfl, .inr (SqT.of e), _, rfl, rfl, _, rfl, ?_⟩
      have hl := r.len
      have q : Q (.bl (decide (ds.length = m) && ds.all fun x => isBelow x n)) H := q
      by_cases hm : ds.length = m
      · have e1 : decide (V.int ((xs.length : Nat) : Int) = V.int ((m : Nat) : Int)) = true := decide_eq_true (by rw [hl, hm])
        rw [decide_eq_true hm, Bool.true_and] at q
        refine iteFb (by rw [e1]; rfl) ?_
        refine ⟨_, rfl, a, rfl, ⟨_, SqT.of e⟩, for_tup (K := K) (a := a) (xs := xs) (fun i σ H' => H' = H ∧ (∃ v, σ = [some (.ref a), some (.int n), some (.int (m : Nat)), v]) ∧ (ds.take i).all (fun x => isBelow x n) = true) ⟨rfl, ⟨_, rfl⟩, rfl⟩ ?_ ?_ ?_⟩
        · rintro i σ H' hi ⟨rfl, _, _⟩
          exact SqT.of e
        · rintro i x σ H' hx ⟨rfl, ⟨v, rfl⟩, hb⟩
          obtain ⟨d, hd, rd⟩ := r.at hx
          refine ⟨_, rfl, _, rfl, x, d, n, rfl, rd, _, rfl, ?_⟩
          cases hbd : isBelow d n with
          | true => exact ⟨rfl, ⟨_, rfl⟩, by rw [all_take hb hd]; exact hbd⟩
          | false =>
            rw [all_at hd hbd] at q
            exact q
        · rintro σ H' ⟨rfl, ⟨v, rfl⟩, hb⟩
          rw [hl, List.take_length] at hb
          rw [hb] at q
          exact q
      · have e1 : decide (V.int ((xs.length : Nat) : Int) = V.int ((m : Nat) : Int)) = false := decide_eq_false (fun z => hm (by injection z with z; omega))
        rw [decide_eq_false hm, Bool.false_and] at q
        exact iteTb (by rw [e1]; rfl) q
    | _ => exact q
end K54
set_option Elab.async false
set_option linter.all false
set_option maxRecDepth 100000
set_option maxHeartbeats 4000000
set_option pp.maxSteps 800
namespace K54
open PySem PySem.Spec PyProof.Rows L2
inductive Nm where
  | e
  | p
  | q
deriving DecidableEq
def Nm.s : Nm → Str
  | .e => "e"
  | .p => "p"
  | .q => "q"
def Nm.ar : Nm → Nat
  | .e => 2
  | .p => 1
  | .q => 0
inductive Cond where
  | rel (z : Nm) (is : List Nat) (f : Bool)
  | eq (i j : Nat) (f : Bool)
  | less (i j : Nat) (f : Bool)
  | last (i : Nat) (f : Bool)
inductive Act where
  | up (i : Nat)
  | down (i : Nat)
  | zero (i : Nat)
  | copy (i j : Nat)
structure Rule where
  q : Nat
  cs : List Cond
  as : List Act
  q' : Nat
structure Mach where
  h : Nat
  ts : List Nat
  st : Nat
  rs : List Rule
abbrev dInt (i : Nat) : PyData := .int (i : Int)
def condD : Cond → PyData
  | .rel z is f => .tuple [.str "rel", .str z.s, .tuple (is.map dInt), .bool f]
  | .eq i j f => .tuple [.str "eq", dInt i, dInt j, .bool f]
  | .less i j f => .tuple [.str "less", dInt i, dInt j, .bool f]
  | .last i f => .tuple [.str "last", dInt i, .bool f]
def actD : Act → PyData
  | .up i => .tuple [.str "up", dInt i]
  | .down i => .tuple [.str "down", dInt i]
  | .zero i => .tuple [.str "zero", dInt i]
  | .copy i j => .tuple [.str "copy", dInt i, dInt j]
def ruleD (r : Rule) : PyData := .tuple [dInt r.q, .tuple (r.cs.map condD), .tuple (r.as.map actD), dInt r.q']
def machD (m : Mach) : PyData := .tuple [dInt m.h, .tuple (m.ts.map dInt), dInt m.st, .tuple (m.rs.map ruleD)]
def condOk (h : Nat) : Cond → Prop
  | .rel z is _ => is.length = z.ar ∧ ∀ i ∈ is, i < h
  | .eq i j _ => i < h ∧ j < h
  | .less i j _ => i < h ∧ j < h
  | .last i _ => i < h
def actOk (h : Nat) : Act → Prop
  | .up i => i < h
  | .down i => i < h
  | .zero i => i < h
  | .copy i j => i < h ∧ j < h
structure RuleOk (h st : Nat) (r : Rule) : Prop where
  q : r.q < st
  q1 : r.q ≠ 1
  q' : r.q' < st
  ncs : r.cs.length ≤ 12
  nas : r.as.length ≤ 12
  cs : ∀ c ∈ r.cs, condOk h c
  as : ∀ a ∈ r.as, actOk h a
structure MachOk (m : Mach) : Prop where
  h : m.h ≤ 2
  nts : m.ts.length ≤ 1
  ts : ∀ t ∈ m.ts, t ≤ 6
  st2 : 2 ≤ m.st
  st : m.st ≤ 20
  nrs : m.rs.length ≤ 1000
  rs : ∀ r ∈ m.rs, RuleOk m.h m.st r
def nmAdd (zs : List Nm) (c : Cond) : List Nm := match c with
  | .rel z _ _ => if z ∈ zs then zs else zs ++ [z]
  | _ => zs
def nmAdds (zs : List Nm) (cs : List Cond) : List Nm := cs.foldl nmAdd zs
def nmOf (m : Mach) : List Nm := m.rs.foldl (fun zs r => nmAdds zs r.cs) []
theorem nmAdd_nodup {zs : List Nm} (h : zs.Nodup) (c : Cond) : (nmAdd zs c).Nodup := by
  unfold nmAdd
  cases c with
  | rel z is f =>
    simp only
    by_cases m : z ∈ zs
    · rw [if_pos m]
      exact h
    · rw [if_neg m]
      rw [List.nodup_append]
      refine ⟨h, by simp, ?_⟩
      intro a ha b hb e
      simp at hb
      subst hb e
      exact m ha
  | _ => exact h
theorem nmAdds_nodup {zs : List Nm} (h : zs.Nodup) (cs : List Cond) : (nmAdds zs cs).Nodup := by
  unfold nmAdds
  induction cs generalizing zs with
  | nil => exact h
  | cons c cs ih => exact ih (nmAdd_nodup h c)
theorem nm_count (zs : List Nm) : zs.length = zs.count .e + zs.count .p + zs.count .q := by
  induction zs with
  | nil => rfl
  | cons z zs ih =>
    rw [List.length_cons, ih]
    cases z <;> simp [List.count_cons] <;> omega
theorem nm_few {zs : List Nm} (h : zs.Nodup) : zs.length ≤ 3 := by
  rw [nm_count]
  rw [List.nodup_iff_count] at h
  have := h .e
  have := h .p
  have := h .q
  omega
theorem nm_inj {a b : Nm} (h : a.s = b.s) : a = b := by
  revert h
  cases a <;> cases b <;> decide +kernel
def nmKv (zs : List Nm) : List (Key × V) := zs.map fun z => (.inr z.s, .int z.ar)
theorem nmKv_val (zs : List Nm) (z : Nm) : valV (nmKv zs) (.inr z.s) = if z ∈ zs then some (.int z.ar) else none := by
  unfold nmKv
  induction zs with
  | nil => rfl
  | cons y zs ih =>
    unfold valV at ih ⊢
    rw [List.map_cons, List.find?_cons]
    by_cases e : z = y
    · subst e
      simp
    · have : ¬ (Sum.inr y.s : Key) = Sum.inr z.s := fun q => e (nm_inj (Sum.inr.inj q)).symm
      simp only [this, decide_false]
      rw [ih]
      simp [e]
theorem nmKv_put {zs : List Nm} {z : Nm} (h : z ∉ zs) : putK (nmKv zs) (.inr z.s) (.int z.ar) = nmKv (zs ++ [z]) := by
  have e := nmKv_val zs z
  rw [if_neg h] at e
  rw [putK_new _ e]
  unfold nmKv
  rw [List.map_append] <;> rfl
end K54
set_option Elab.async false
set_option linter.all false
set_option maxRecDepth 100000
set_option maxHeartbeats 4000000
set_option pp.maxSteps 800
namespace K54
open PySem PySem.Spec PyProof.Rows L2
def Kx (a : Addr) (H H' : Hp) : Prop := ∀ b o, b ≠ a → H b = some o → H' b = some o
theorem Kx.refl {a : Addr} {H : Hp} : Kx a H H := fun _ _ _ e => e
theorem Kx.trans {a : Addr} {H H1 H2 : Hp} (x : Kx a H H1) (y : Kx a H1 H2) : Kx a H H2 := fun b o n e => y b o n (x b o n e)
theorem Kx.of {a : Addr} {H H' : Hp} (s : Same H H') : Kx a H H' := fun b o _ e => s b o e
theorem Kx.put {a : Addr} {H : Hp} {o : HO} : Kx a H (upd H a o) := fun b _ n e => by rw [upd_ne n]; exact e
theorem Kx.tups {a : Addr} {H H' : Hp} {o : HO} (x : Kx a H H') (e : H a = some o) (no : ∀ ys, o ≠ .tup ys) : TupS H H' := fun b ys q => x b _ (fun z => by rw [z, e] at q; exact no ys (Option.some.inj q)) q
theorem same_upd {H : Hp} {a : Addr} {o : HO} (h : H a = none) : Same H (upd H a o) := fun b u e => by
  rw [upd_ne (fun z => by rw [z, h] at e; cases e)]
  exact e
theorem Same.tr {H H1 H2 : Hp} (x : Same H H1) (y : Same H1 H2) : Same H H2 := fun b o e => y b o (x b o e)
theorem Same.rf {H : Hp} : Same H H := fun _ _ e => e
section
variable {H : Hp} {v : V}
theorem DvAll.nil_inv {xs : List V} (h : DvAll H xs []) : xs = [] := by
  cases h
  rfl
theorem DvAll.cons_inv {xs : List V} {d : PyData} {ds : List PyData} (h : DvAll H xs (d :: ds)) : ∃ x ys, xs = x :: ys ∧ Dv H x d ∧ DvAll H ys ds := by
  cases h with
  | cons a b => exact ⟨_, _, rfl, a, b⟩
theorem Dv.int_inv {i : Int} (h : Dv H v (.int i)) : v = .int i := by
  cases h
  rfl
theorem Dv.str_inv {z : Str} (h : Dv H v (.str z)) : v = .str z := by
  cases h
  rfl
theorem Dv.bl_inv {b : Bool} (h : Dv H v (.bool b)) : v = .bl b := by
  cases h
  rfl
theorem Dv.tup_inv {ds : List PyData} (h : Dv H v (.tuple ds)) : ∃ a xs, v = .ref a ∧ H a = some (.tup xs) ∧ DvAll H xs ds := by
  cases h with
  | tup e r => exact ⟨_, _, rfl, e, r⟩
theorem Dv.lst_inv {ds : List PyData} (h : Dv H v (.list ds)) : ∃ a xs, v = .ref a ∧ H a = some (.lst xs) ∧ DvAll H xs ds := by
  cases h with
  | lst e r => exact ⟨_, _, rfl, e, r⟩
abbrev vInt (i : Nat) : V := .int (i : Int)
theorem DvAll.nats_inv {xs : List V} : ∀ {is : List Nat}, DvAll H xs (is.map dInt) → xs = is.map vInt := by
  intro is
  induction is generalizing xs with
  | nil => intro h; exact h.nil_inv
  | cons i is ih =>
    intro h
    obtain ⟨x, ys, rfl, a, b⟩ := h.cons_inv
    rw [ih b, Dv.int_inv a] <;> rfl
theorem DvAll.nats (is : List Nat) : DvAll H (is.map vInt) (is.map dInt) := by
  induction is with
  | nil => exact .nil
  | cons i is ih => exact .cons (.int _) ih
theorem cond_rel {z : Nm} {is : List Nat} {f : Bool} (h : Dv H v (condD (.rel z is f))) : ∃ a b, v = .ref a ∧ H a = some (.tup [.str "rel", .str z.s, .ref b, .bl f]) ∧ H b = some (.tup (is.map vInt)) := by
  obtain ⟨a, xs, rfl, e, r⟩ := h.tup_inv
  obtain ⟨x1, _, rfl, r1, r⟩ := r.cons_inv
  obtain ⟨x2, _, rfl, r2, r⟩ := r.cons_inv
  obtain ⟨x3, _, rfl, r3, r⟩ := r.cons_inv
  obtain ⟨x4, _, rfl, r4, r⟩ := r.cons_inv
  cases r.nil_inv
  cases r1.str_inv
  cases r2.str_inv
  obtain ⟨b, ys, rfl, e2, q⟩ := r3.tup_inv
  cases q.nats_inv
  cases r4.bl_inv
  exact ⟨a, b, rfl, e, e2⟩
theorem cond_two {z : Str} {i j : Nat} {f : Bool} (h : Dv H v (.tuple [.str z, dInt i, dInt j, .bool f])) : ∃ a, v = .ref a ∧ H a = some (.tup [.str z, vInt i, vInt j, .bl f]) := by
  obtain ⟨a, xs, rfl, e, r⟩ := h.tup_inv
  obtain ⟨x1, _, rfl, r1, r⟩ := r.cons_inv
  obtain ⟨x2, _, rfl, r2, r⟩ := r.cons_inv
  obtain ⟨x3, _, rfl, r3, r⟩ := r.cons_inv
  obtain ⟨x4, _, rfl, r4, r⟩ := r.cons_inv
  cases r.nil_inv
  cases r1.str_inv
  cases r2.int_inv
  cases r3.int_inv
  cases r4.bl_inv
  exact ⟨a, rfl, e⟩
theorem cond_last {z : Str} {i : Nat} {f : Bool} (h : Dv H v (.tuple [.str z, dInt i, .bool f])) : ∃ a, v = .ref a ∧ H a = some (.tup [.str z, vInt i, .bl f]) := by
  obtain ⟨a, xs, rfl, e, r⟩ := h.tup_inv
  obtain ⟨x1, _, rfl, r1, r⟩ := r.cons_inv
  obtain ⟨x2, _, rfl, r2, r⟩ := r.cons_inv
  obtain ⟨x4, _, rfl, r4, r⟩ := r.cons_inv
  cases r.nil_inv
  cases r1.str_inv
  cases r2.int_inv
  cases r4.bl_inv
  exact ⟨a, rfl, e⟩
theorem act_one {z : Str} {i : Nat} (h : Dv H v (.tuple [.str z, dInt i])) : ∃ a, v = .ref a ∧ H a = some (.tup [.str z, vInt i]) := by
  obtain ⟨a, xs, rfl, e, r⟩ := h.tup_inv
  obtain ⟨x1, _, rfl, r1, r⟩ := r.cons_inv
  obtain ⟨x2, _, rfl, r2, r⟩ := r.cons_inv
  cases r.nil_inv
  cases r1.str_inv
  cases r2.int_inv
  exact ⟨a, rfl, e⟩
theorem act_two {z : Str} {i j : Nat} (h : Dv H v (.tuple [.str z, dInt i, dInt j])) : ∃ a, v = .ref a ∧ H a = some (.tup [.str z, vInt i, vInt j]) := by
  obtain ⟨a, xs, rfl, e, r⟩ := h.tup_inv
  obtain ⟨x1, _, rfl, r1, r⟩ := r.cons_inv
  obtain ⟨x2, _, rfl, r2, r⟩ := r.cons_inv
  obtain ⟨x3, _, rfl, r3, r⟩ := r.cons_inv
  cases r.nil_inv
  cases r1.str_inv
  cases r2.int_inv
  cases r3.int_inv
  exact ⟨a, rfl, e⟩
theorem rule_inv {r : Rule} (h : Dv H v (ruleD r)) : ∃ a c d xs ys, v = .ref a ∧ H a = some (.tup [vInt r.q, .ref c, .ref d, vInt r.q']) ∧ H c = some (.tup xs) ∧ DvAll H xs (r.cs.map condD) ∧ H d = some (.tup ys) ∧ DvAll H ys (r.as.map actD) := by
  obtain ⟨a, xs, rfl, e, r⟩ := h.tup_inv
  obtain ⟨x1, _, rfl, r1, r⟩ := r.cons_inv
  obtain ⟨x2, _, rfl, r2, r⟩ := r.cons_inv
  obtain ⟨x3, _, rfl, r3, r⟩ := r.cons_inv
  obtain ⟨x4, _, rfl, r4, r⟩ := r.cons_inv
  cases r.nil_inv
  cases r1.int_inv
  obtain ⟨c, xs, rfl, e2, q2⟩ := r2.tup_inv
  obtain ⟨d, ys, rfl, e3, q3⟩ := r3.tup_inv
  cases r4.int_inv
  exact ⟨a, c, d, xs, ys, rfl, e, e2, q2, e3, q3⟩
theorem mach_inv {m : Mach} (h : Dv H v (machD m)) : ∃ a c d ys, v = .ref a ∧ H a = some (.tup [vInt m.h, .ref c, vInt m.st, .ref d]) ∧ H c = some (.tup (m.ts.map vInt)) ∧ H d = some (.tup ys) ∧ DvAll H ys (m.rs.map ruleD) := by
  obtain ⟨a, xs, rfl, e, r⟩ := h.tup_inv
  obtain ⟨x1, _, rfl, r1, r⟩ := r.cons_inv
  obtain ⟨x2, _, rfl, r2, r⟩ := r.cons_inv
  obtain ⟨x3, _, rfl, r3, r⟩ := r.cons_inv
  obtain ⟨x4, _, rfl, r4, r⟩ := r.cons_inv
  cases r.nil_inv
  cases r1.int_inv
  obtain ⟨c, xs, rfl, e2, q2⟩ := r2.tup_inv
  cases q2.nats_inv
  cases r3.int_inv
  obtain ⟨d, ys, rfl, e3, q3⟩ := r4.tup_inv
  exact ⟨a, c, d, ys, rfl, e, e2, e3, q3⟩
theorem DvAll.gets {α : Type} {f : α → PyData} {xs : List V} {l : List α} (h : DvAll H xs (l.map f)) {i : Nat} {x : V} (e : xs[i]? = some x) : ∃ y, l[i]? = some y ∧ Dv H x (f y) := by
  obtain ⟨d, hd, r⟩ := h.at e
  rw [List.getElem?_map] at hd
  cases hy : l[i]? with
  | none => rw [hy] at hd; cases hd
  | some y =>
    rw [hy] at hd
    cases hd
    exact ⟨y, rfl, r⟩
end
theorem noL_nats : ∀ (is : List Nat), noLs (is.map dInt) = true
  | [] => rfl
  | i :: is => by
    rw [List.map_cons, noLs, noL_nats is]
    rfl
theorem noL_all {α : Type} {f : α → PyData} (h : ∀ x, noL (f x) = true) : ∀ l : List α, noLs (l.map f) = true
  | [] => rfl
  | x :: l => by rw [List.map_cons, noLs, h x, noL_all h l] <;> rfl
theorem noL_cond : ∀ c, noL (condD c) = true
  | .rel z is f => by
    show noLs [.str "rel", .str z.s, .tuple (is.map dInt), .bool f] = true
    have : noL (.tuple (is.map dInt)) = true := noL_nats is
    simp [noLs, noL, this, noL_nats]
  | .eq i j f => rfl
  | .less i j f => rfl
  | .last i f => rfl
theorem noL_act : ∀ c, noL (actD c) = true
  | .up _ => rfl
  | .down _ => rfl
  | .zero _ => rfl
  | .copy _ _ => rfl
theorem noL_rule (r : Rule) : noL (ruleD r) = true := by
  show noLs [dInt r.q, .tuple (r.cs.map condD), .tuple (r.as.map actD), dInt r.q'] = true
  simp [noLs, noL, noL_all noL_cond, noL_all noL_act]
theorem noL_mach (m : Mach) : noL (machD m) = true := by
  show noLs [dInt m.h, .tuple (m.ts.map dInt), dInt m.st, .tuple (m.rs.map ruleD)] = true
  simp [noLs, noL, noL_all noL_rule, noL_nats]
end K54
set_option Elab.async false
set_option linter.all false
set_option maxRecDepth 100000
set_option maxHeartbeats 4000000
set_option pp.maxSteps 800
namespace K54
open PySem PySem.Spec PyProof.Rows L2
structure Acc (H0 H : Hp) (D : Addr) (ds : List PyData) : Prop where
  same : Same H0 H
  free : H0 D = none
  flat : noLs ds = true
  ex : ∃ vs, H D = some (.lst vs) ∧ DvAll H vs ds
theorem Acc.start {H0 : Hp} {D : Addr} (h : H0 D = none) : Acc H0 (upd H0 D (.lst [])) D [] := ⟨same_upd h, h, rfl, [], upd_same, .nil⟩
theorem Acc.grow {H0 H H' : Hp} {D : Addr} {ds : List PyData} (a : Acc H0 H D ds) (s : Same H H') : Acc H0 H' D ds :=
  let ⟨vs, e, r⟩ := a.ex
  ⟨Same.tr a.same s, a.free, a.flat, vs, s _ _ e, r.mono s⟩
theorem noLs_snoc {d : PyData} (hd : noL d = true) : ∀ {ds : List PyData}, noLs ds = true → noLs (ds ++ [d]) = true
  | [], _ => by
    rw [List.nil_append, noLs, noLs, hd]
    rfl
  | x :: ds, h => by
    rw [noLs, Bool.and_eq_true] at h
    rw [List.cons_append, noLs, h.1, noLs_snoc hd h.2]
    rfl
theorem Acc.push {H0 H : Hp} {D : Addr} {ds : List PyData} {v : V} {d : PyData} (a : Acc H0 H D ds) (hv : Dv H v d) (hd : noL d = true) :
    ∃ vs, H D = some (.lst vs) ∧ vs.length = ds.length ∧ Acc H0 (upd H D (.lst (vs ++ [v]))) D (ds ++ [d]) := by
  obtain ⟨vs, e, r⟩ := a.ex
  have t : TupS H (upd H D (.lst (vs ++ [v]))) := tupS_upd (fun ys q => by rw [e] at q; cases q)
  refine ⟨vs, e, r.len, ⟨fun b o q => ?_, a.free, noLs_snoc hd a.flat, vs ++ [v], upd_same, (r.monoT t a.flat).append (.cons (hv.monoT t hd) .nil)⟩⟩
  rw [upd_ne (ne_of_none q a.free)]
  exact a.same _ _ q
theorem Acc.dv {H0 H : Hp} {D : Addr} {ds : List PyData} (a : Acc H0 H D ds) : Dv H (.ref D) (.list ds) :=
  let ⟨_, e, r⟩ := a.ex
  .lst e r
theorem Acc.tup {H0 H : Hp} {D a : Addr} {ds : List PyData} {xs : List V} (x : Acc H0 H D ds) (e : H0 a = some (.tup xs)) : H a = some (.tup xs) := x.same _ _ e
theorem room65 {k : Nat} {A : Around} (r : Room k A) : A.units + 65 < cLine := by
  have := r.un
  omega
def LayN (n : Nat) (d : PyData) : Prop := d.canLay0 = true ∧ d.depth ≤ n
theorem LayN.mono {n m : Nat} {d : PyData} (h : LayN n d) (k : n ≤ m) : LayN m d := ⟨h.1, Nat.le_trans h.2 k⟩
theorem layN_all {n : Nat} : ∀ {ds : List PyData}, (∀ d ∈ ds, LayN n d) → PyData.canLayAll0 ds = true ∧ PyData.depthAll ds ≤ n
  | [], _ => ⟨rfl, Nat.zero_le _⟩
  | d :: ds, h => by
    have h1 := h d (by simp)
    have h2 := layN_all (fun x hx => h x (List.mem_cons_of_mem _ hx))
    refine ⟨?_, ?_⟩
    · rw [PyData.canLayAll0, h1.1, h2.1] <;> rfl
    · rw [PyData.depthAll]
      exact Nat.max_le.mpr ⟨h1.2, h2.2⟩
theorem LayN.list {n : Nat} {ds : List PyData} (h : ∀ d ∈ ds, LayN n d) : LayN (n + 1) (.list ds) := by
  have := layN_all h
  exact ⟨by rw [PyData.canLay0]; exact this.1, by rw [PyData.depth]; exact Nat.succ_le_succ this.2⟩
theorem LayN.tuple {n : Nat} {ds : List PyData} (h : ∀ d ∈ ds, LayN n d) : LayN (n + 1) (.tuple ds) := by
  have := layN_all h
  exact ⟨by rw [PyData.canLay0]; exact this.1, by rw [PyData.depth]; exact Nat.succ_le_succ this.2⟩
theorem LayN.shaped {n : Nat} {d : PyData} (h : LayN n d) (k : n ≤ 64) : SeqAt.shaped d = true := by
  unfold SeqAt.shaped
  rw [h.1, decide_eq_true (Nat.le_trans h.2 k)] <;> rfl
theorem LayN.int {n : Nat} (i : Int) : LayN n (.int i) := ⟨rfl, Nat.zero_le _⟩
theorem LayN.nm {n : Nat} (z : Nm) : LayN n (.str z.s) := ⟨by cases z <;> decide +kernel, Nat.zero_le _⟩
structure Rl where
  z : Nm
  ar : Nat
  ks : List (List Int)
def rowK (ns : List Int) : NestedKey := .tup (ns.map .num)
def RlT (H : Hp) (v : V) (r : Rl) : Prop := ∃ a b as, v = .ref a ∧ H a = some (.tup [.str r.z.s, vInt r.ar, .ref b]) ∧ H b = some (.tup (as.map V.ref)) ∧ RefsOf H (r.ks.map rowK) as
def strF (n : Nat) (l : Addr) : List (Str × V) := [("size", vInt n), ("relations", .ref l)]
def StrAt (K : PySem.W.Frag) (H : Hp) (p : Addr) (n : Nat) (rels : List Rl) : Prop :=
  ∃ dx l vs, H p = some (.ins (He.ga K "Structure") dx (strF n l)) ∧ H l = some (.lst vs) ∧ Paired (RlT H) vs rels
theorem refsOf_mono {H H' : Hp} (t : TupS H H') {ks : List NestedKey} {as : List Addr} (r : RefsOf H ks as) : RefsOf H' ks as := Paired.mapP r fun _ _ z => z.mono t
theorem RlT.mono {H H' : Hp} (t : TupS H H') {v : V} {r : Rl} (h : RlT H v r) : RlT H' v r :=
  let ⟨a, b, as, e, e1, e2, q⟩ := h
  ⟨a, b, as, e, t _ _ e1, t _ _ e2, refsOf_mono t q⟩
theorem StrAt.mono {K : PySem.W.Frag} {H H' : Hp} {p : Addr} {n : Nat} {rels : List Rl} (h : StrAt K H p n rels) (s : Same H H') : StrAt K H' p n rels :=
  let ⟨dx, l, vs, e1, e2, r⟩ := h
  ⟨dx, l, vs, s _ _ e1, s _ _ e2, Paired.mapP r fun _ _ z => z.mono (Same.tupS s)⟩
theorem paired_refs {H : Hp} {vs : List V} {rels : List Rl} (r : Paired (RlT H) vs rels) : ∀ v ∈ vs, ∃ a, v = .ref a := by
  induction r with
  | nil => intro v hv; cases hv
  | cons z t ih =>
    intro v hv
    rcases List.mem_cons.mp hv with rfl | hv
    · obtain ⟨a, b, as, e, _⟩ := z
      exact ⟨a, e⟩
    · exact ih v hv
theorem StrAt.monoX {K : PySem.W.Frag} {H H' : Hp} {p dr a : Addr} {c : Int} {n : Nat} {rels : List Rl} (h : StrAt K H p n rels) (hd : H dr = some (.lst [.ref a, .int c])) (s : Kx dr H H') : StrAt K H' p n rels := by
  obtain ⟨dx, l, vs, e1, e2, r⟩ := h
  have t : TupS H H' := s.tups hd (by intro ys z; cases z)
  refine ⟨dx, l, vs, s _ _ (ne_of e1 hd (by intro z; cases z)) e1, s _ _ (ne_of e2 hd ?_) e2, Paired.mapP r fun _ _ z => z.mono t⟩
  intro z
  have z : vs = [.ref a, .int c] := by injection z
  obtain ⟨b, hb⟩ := paired_refs r (.int c) (by rw [z]; simp)
  cases hb
theorem paired_get {α β : Type} {F : α → β → Prop} {l1 : List α} {l2 : List β} (r : Paired F l1 l2) : ∀ {i : Nat} {a : α}, l1[i]? = some a → ∃ b, l2[i]? = some b ∧ F a b := by
  induction r with
  | nil => intro i a e; rw [List.getElem?_nil] at e; cases e
  | cons z t ih =>
    intro i a e
    cases i with
    | zero => rw [List.getElem?_cons_zero] at e ⊢; cases e; exact ⟨_, rfl, z⟩
    | succ i => rw [List.getElem?_cons_succ] at e ⊢; exact ih e
theorem paired_len {α β : Type} {F : α → β → Prop} {l1 : List α} {l2 : List β} (r : Paired F l1 l2) : l1.length = l2.length := by
  induction r with
  | nil => rfl
  | cons z t ih => rw [List.length_cons, List.length_cons, ih]
theorem strF_size (n : Nat) (l : Addr) : (strF n l).lookup ("size" : Str) = some (vInt n) := by
  unfold strF
  rw [List.lookup_cons]
  rfl
theorem strF_rels (n : Nat) (l : Addr) : (strF n l).lookup ("relations" : Str) = some (.ref l) := by
  have e : (("relations" : Str) == "size") = false := by decide +kernel
  unfold strF
  rw [List.lookup_cons, e, List.lookup_cons]
  rfl
theorem strF_symbols (n : Nat) (l : Addr) : (strF n l).lookup ("symbols" : Str) = none := by
  have e : (("symbols" : Str) == "size") = false := by decide +kernel
  have e2 : (("symbols" : Str) == "relations") = false := by decide +kernel
  unfold strF
  rw [List.lookup_cons, e, List.lookup_cons, e2]
  rfl
end K54
set_option Elab.async false
set_option linter.all false
set_option maxRecDepth 100000
set_option maxHeartbeats 4000000
set_option pp.maxSteps 800
namespace K54
open PySem PySem.Spec PyProof.Rows L2
abbrev Cf := Nat × List Int
def nk (c : Cf) : NestedKey := .tup [.num c.1, .tup (c.2.map .num), .tup []]
theorem nums_inj : ∀ {a b : List Int}, a.map NestedKey.num = b.map NestedKey.num → a = b
  | [], [], _ => rfl
  | [], _ :: _, h => by simp at h
  | _ :: _, [], h => by simp at h
  | x :: a, y :: b, h => by
    rw [List.map_cons, List.map_cons, List.cons.injEq] at h
    rw [nums_inj h.2]
    rw [NestedKey.num.inj h.1]
theorem nk_inj {a b : Cf} (h : nk a = nk b) : a = b := by
  obtain ⟨q, hs⟩ := a
  obtain ⟨q', hs'⟩ := b
  unfold nk at h
  simp only [NestedKey.tup.injEq, List.cons.injEq, NestedKey.num.injEq, and_true] at h
  have h1 : q = q' := by have := h.1; omega
  rw [h1, nums_inj h.2]
theorem rowK_inj {a b : List Int} (h : rowK a = rowK b) : a = b := by
  unfold rowK at h
  exact nums_inj (NestedKey.tup.inj h)
theorem datas_nums : ∀ ns : List Int, NestedKey.datas (ns.map .num) = ns.map .int
  | [] => rfl
  | n :: ns => by
    rw [List.map_cons, NestedKey.datas, datas_nums ns]
    rfl
theorem rowK_data (ns : List Int) : (rowK ns).data = .tuple (ns.map .int) := by
  show PyData.tuple (NestedKey.datas (ns.map .num)) = _
  rw [datas_nums]
def cfD (c : Cf) : PyData := .tuple [.int c.1, .tuple (c.2.map .int), .tuple []]
theorem nk_data (c : Cf) : (nk c).data = cfD c := by
  show PyData.tuple [.int c.1, .tuple (NestedKey.datas (c.2.map .num)), .tuple []] = _
  rw [datas_nums]
  rfl
theorem depthAll_nums : ∀ ns : List Int, NestedKey.depthAll (ns.map .num) = 0
  | [] => rfl
  | n :: ns => by
    rw [List.map_cons, NestedKey.depthAll, depthAll_nums ns]
    rfl
theorem rowK_depth (ns : List Int) : (rowK ns).depth ≤ 8 := by
  unfold rowK
  rw [NestedKey.depth, depthAll_nums]
  decide
theorem nk_depth (c : Cf) : (nk c).depth ≤ 8 := by
  unfold nk
  simp only [NestedKey.depth, NestedKey.depthAll, depthAll_nums]
  decide
theorem keysOk_nk (cs : List Cf) : KeysOk (cs.map nk) := by
  have e : (cs.map nk).map NestedKey.data = cs.map cfD := by
    rw [List.map_map]
    congr 1
    funext c
    exact nk_data c
  refine ⟨?_, .inl ?_, ?_⟩
  · rw [e]
    refine PySem.W.AllAlike.of fun a b => ?_
    unfold cfD
    rw [PySem.W.alike, PySem.W.alikeAll, PySem.W.alikeAll, PySem.W.alikeAll, PySem.W.alikeAll]
    simp only [PySem.W.alike, PySem.W.alike_ints, PySem.W.alikeAll, Bool.and_self]
  · rw [e]
    exact PySem.W.Sortable.tuples fun b => ⟨_, _, rfl⟩
  · intro k hk
    obtain ⟨c, _, rfl⟩ := List.mem_map.mp hk
    exact nk_depth c
theorem keysOk_rows {n : Nat} {ks : List (List Int)} (h : ∀ k ∈ ks, k.length = n) (nd : ks.Nodup) : KeysOk (ks.map rowK) := by
  have e : (ks.map rowK).map NestedKey.data = ks.map fun k => PyData.tuple (k.map .int) := by
    rw [List.map_map]
    congr 1
    funext c
    exact rowK_data c
  refine ⟨?_, ?_, ?_⟩
  · rw [e]
    exact PySem.W.AllAlike.of fun a b => by rw [PySem.W.alike]; exact PySem.W.alike_ints a b
  · cases n with
    | zero =>
      right
      refine ⟨?_, ?_⟩
      · rw [List.length_map]
        match ks, h, nd with
        | [], _, _ => exact Nat.zero_le _
        | [a], _, _ => exact Nat.le_refl _
        | a :: b :: r, h, nd =>
          have ha : a = [] := List.eq_nil_of_length_eq_zero (h a (by simp))
          have hb : b = [] := List.eq_nil_of_length_eq_zero (h b (by simp))
          subst ha hb
          simp at nd
      · intro k hk
        obtain ⟨c, _, rfl⟩ := List.mem_map.mp hk
        rw [rowK_data]
        intro z
        cases z
    | succ n =>
      left
      left
      rw [e]
      intro d hd
      obtain ⟨k, hk, rfl⟩ := List.mem_map.mp hd
      have := h k hk
      cases k with
      | nil => cases this
      | cons x r => exact ⟨_, _, rfl⟩
  · intro k hk
    obtain ⟨c, _, rfl⟩ := List.mem_map.mp hk
    exact rowK_depth c
theorem toks_nums_inj : ∀ {a b : List Int}, PySem.W.keyToksAll (a.map .int) = PySem.W.keyToksAll (b.map .int) → a = b
  | [], [], _ => rfl
  | [], y :: b, h => by
    rw [List.map_cons, List.map_nil, PySem.W.keyToksAll, PySem.W.keyToksAll] at h
    simp at h
  | x :: a, [], h => by
    rw [List.map_cons, List.map_nil, PySem.W.keyToksAll, PySem.W.keyToksAll] at h
    simp at h
  | x :: a, y :: b, h => by
    rw [List.map_cons, List.map_cons, PySem.W.keyToksAll, PySem.W.keyToksAll, PySem.W.keyToks, PySem.W.keyToks] at h
    simp only [List.cons_append, List.nil_append, List.cons.injEq, true_and, Sum.inl.injEq] at h
    rw [h.1, toks_nums_inj h.2]
theorem toks_cf_inj {a b : Cf} (h : PySem.W.keyToks (cfD a) = PySem.W.keyToks (cfD b)) : a = b := by
  unfold cfD at h
  simp only [PySem.W.keyToks, PySem.W.keyToksAll, List.cons_append, List.nil_append, List.cons.injEq, true_and, Sum.inl.injEq] at h
  obtain ⟨h1, h2⟩ := h
  have h3 := toks_nums_inj (List.append_cancel_right h2)
  obtain ⟨q, hs⟩ := a
  obtain ⟨q', hs'⟩ := b
  simp only at h1 h3
  have : q = q' := by omega
  rw [this, h3]
theorem keyLe_total : ∀ a b : NestedKey, (keyLe a b || keyLe b a) = true := fun a b => by
  have := (PySem.W.sortLe_total (PyProof.Rows.listOrd PyProof.Rows.itemOrd) false fun b : NestedKey => PySem.W.keyToks b.data).total a b
  rw [Bool.or_eq_true]
  exact this
theorem keyLe_trans : ∀ a b c : NestedKey, keyLe a b = true → keyLe b c = true → keyLe a c = true :=
  (PySem.W.sortLe_total (PyProof.Rows.listOrd PyProof.Rows.itemOrd) false fun b : NestedKey => PySem.W.keyToks b.data).trans
theorem keyLe_anti {a b : Cf} (h1 : keyLe (nk a) (nk b) = true) (h2 : keyLe (nk b) (nk a) = true) : nk a = nk b := by
  have h1 : (!(PyProof.Rows.listOrd PyProof.Rows.itemOrd).blt (PySem.W.keyToks (nk b).data) (PySem.W.keyToks (nk a).data)) = true := h1
  have h2 : (!(PyProof.Rows.listOrd PyProof.Rows.itemOrd).blt (PySem.W.keyToks (nk a).data) (PySem.W.keyToks (nk b).data)) = true := h2
  rw [Bool.not_eq_true'] at h1 h2
  have e := (PyProof.Rows.listOrd PyProof.Rows.itemOrd).total _ _ h2 h1
  rw [nk_data, nk_data] at e
  rw [toks_cf_inj e]
abbrev sortK (ks : List NestedKey) : List NestedKey := ks.mergeSort keyLe
theorem sort_ext {ks ks' : List NestedKey} (hk : ∀ k ∈ ks, ∃ c, k = nk c) (nd : ks.Nodup) (nd' : ks'.Nodup) (h : ∀ k, k ∈ ks ↔ k ∈ ks') : sortK ks = sortK ks' := by
  have p : (sortK ks).Perm (sortK ks') := (List.mergeSort_perm _ _).trans (((List.perm_ext_iff_of_nodup nd nd').mpr h).trans (List.mergeSort_perm _ _).symm)
  refine List.Perm.eq_of_pairwise ?_ (List.pairwise_mergeSort keyLe_trans keyLe_total ks) (List.pairwise_mergeSort keyLe_trans keyLe_total ks') p
  intro a b ha hb h1 h2
  have ha := hk a (List.mem_mergeSort.mp ha)
  have hb := hk b ((h b).mpr (List.mem_mergeSort.mp hb))
  obtain ⟨c, rfl⟩ := ha
  obtain ⟨d, rfl⟩ := hb
  exact keyLe_anti h1 h2
end K54
set_option Elab.async false
set_option linter.all false
set_option maxRecDepth 100000
set_option maxHeartbeats 4000000
set_option pp.maxSteps 800
namespace K54
open PySem PySem.Spec PyProof.Rows L2
variable {P : Program} {w : World} {K : PySem.W.Frag} {mg : Str → Option Value} {base : Heap}
def spName : Sp := fun vs H Q _ => ∃ z : Nm, vs = [.str z.s] ∧ Q (.bl true) H
theorem sc_is_name : FnScope ["text", "sign"] ["text"] (defScope s_is_name) := ⟨rfl, rfl, rfl, by decide +kernel, rfl, by decide +kernel, by decide +kernel⟩
theorem d_is_name (T : Txt w K mg) : Def P w K mg base CX0 1 ("is_name", none) ["text"] (spName) := by
  refine Def.of0 (k := 0) T.f_is_name sc_is_name (fun _ _ _ _ _ _ us hl => match us, hl with | [_], _ => rfl) (fun vs H Q E h => ?_) (fun cdv A outer s H vs Q E hr h => ?_)
  · obtain ⟨z, rfl, _⟩ := h
    rfl
  · obtain ⟨z, rfl, q⟩ := h
    refine ⟨_, ((pss_cons (ps_if (PW.pt (pw_or (pt_not (pt_val (pe_b call_isD T.b_isinstance (pa_cons (pv 0) (pa_cons (pe_tyv (T := "str") T.b_str) pa_nil))))) (pw_or1 (pt_not (pt_chain op_le op_le pe_int (pe_b call_len_str T.b_len (pa_cons (pv 0) pa_nil)) (pe_gi T.i_LONGEST))))))
       (pss_one (ps_ret pe_bl))
       pss_nil)
       (pss_cons (ps_if (PW.pt (pw_or (pt_cmpR op_notIn_sign (pe_ix ix_str (pv 0) pe_int (fun _ _ => rfl)) (pe_gs T.t_LETTERS) rfl) (pw_or1 (pt_cmpR op_in_seq (pv 0) (pe_gr T.g_WORDS_structures) rfl))))
       (pss_one (ps_ret pe_bl))
       pss_nil)
       (pss_cons (ps_for PassesOwn.never rfl (pi_str (pv 0)) (pg_name (i := 1) sc_is_name.nd rfl (Or.inl rfl))
       (pss_one (ps_if (PW.pt (pw_and (pt_cmpR op_notIn_sign (pv 1) (pe_gs T.t_LETTERS) rfl) (pw_and1 (pt_cmpR op_notIn_sign (pv 1) (pe_gs T.t_FIGURES) rfl))))
       (pss_one (ps_ret pe_bl))
       pss_nil)))
       (pss_one (ps_ret pe_bl)))))), ?_⟩
    have hz : ∃ c : Nat, z.s = ⟨#[c]⟩ ∧ (c = 101 ∨ c = 112 ∨ c = 113) := by
      cases z
      · exact ⟨101, by decide +kernel, .inl rfl⟩
      · exact ⟨112, by decide +kernel, .inr (.inl rfl)⟩
      · exact ⟨113, by decide +kernel, .inr (.inr rfl)⟩
    obtain ⟨c, ez, hc⟩ := hz
    have hL : decide (c ∈ ("abcdefghijklmnopqrstuvwxyz" : Str).cps.toList) = true := by
      rcases hc with rfl | rfl | rfl <;> decide +kernel
    have hW : inV (.str z.s) [.str "and", .str "or", .str "not", .str "some", .str "all", .str "lfp", .str "pfp", .str "tc", .str "guess", .str "true", .str "false"] = false := by
      cases z <;> decide +kernel
    rw [ez] at hW ⊢
    refine ⟨_, rfl, _, _, "str", rfl, by decide, .str _, _, rfl, ?_⟩
    refine iteF ⟨_, rfl, _, rfl, by show 1 ≤ sizeLine; decide, _, _, rfl, rfl, _, rfl, iteT ⟨_, _, rfl, rfl, _, rfl, iteFb rfl ?_⟩⟩
    refine ⟨_, rfl, _, _, c, rfl, rfl, by show 1 ≤ sizeLine; decide, rfl, c, _, rfl, rfl, _, rfl, iteFb (by rw [hL]; rfl) ?_⟩
    refine ⟨_, rfl, _, _, rfl, .inr (T.words H), rfl, rfl, _, rfl, iteFb hW ?_⟩
    refine ⟨_, rfl, _, rfl, for_it walk_str (fun i σ H' => H' = H ∧ ∃ v, σ = [some (.str ⟨#[c]⟩), v]) ⟨rfl, _, rfl⟩ (fun _ _ _ _ _ => trivial) ?_ ?_⟩
    · rintro i x σ H' H'' hi ⟨rfl, v, rfl⟩ ⟨rfl, c', hc', rfl⟩
      have : c' = c := by
        have hi : i < 1 := hi
        have : i = 0 := by omega
        subst this
        exact (Option.some.inj hc').symm
      subst this
      refine ⟨_, rfl, c', _, rfl, rfl, _, rfl, iteFb (by rw [hL]; rfl) ?_⟩
      exact ⟨rfl, _, rfl⟩
    · rintro σ H' ⟨rfl, v, rfl⟩
      exact q
def spHeads : Sp := fun vs H Q _ => ∃ x d n m, vs = [x, .int (m : Nat), .int n] ∧ Dv H x d ∧ Q (.bl (isRow d n m)) H
theorem sc_are_heads : FnScope ["value", "many", "heads"] ["value", "many", "heads"] (defScope s_are_heads) := ⟨rfl, rfl, rfl, by decide +kernel, rfl, by decide +kernel, by decide +kernel⟩
theorem d_are_heads (T : Txt w K mg) : Def P w K mg base CX0 4 ("are_heads", none) ["value", "many", "heads"] (spHeads) := by
  refine Def.of0 (k := 3) T.f_are_heads sc_are_heads (fun _ _ _ _ _ _ us hl => match us, hl with | [_, _, _], _ => rfl) (fun vs H Q E h => ?_) (fun cdv A outer s H vs Q E hr h => ?_)
  · obtain ⟨x, d, n, m, rfl, _⟩ := h
    rfl
  · obtain ⟨x, d, n, m, rfl, hd, q⟩ := h
    refine ⟨_, ((pss_one (ps_ret (pe_f (d_is_row T) (hr.mono (by decide)) T.g_is_row pass0 (pa_cons (pv 0) (pa_cons (pv 2) (pa_cons (pv 1) pa_nil))))))), ?_⟩
    exact ⟨_, rfl, _, rfl, _, rfl, x, d, n, m, rfl, hd, q⟩
end K54
set_option Elab.async false
set_option linter.all false
set_option maxRecDepth 100000
set_option maxHeartbeats 4000000
set_option pp.maxSteps 800
namespace K54
open PySem PySem.Spec PyProof.Rows L2
variable {P : Program} {w : World} {K : PySem.W.Frag} {mg : Str → Option Value} {base : Heap}
theorem nm_lt {zs : List Nm} (h : zs.Nodup) : (nmKv zs).length < sizeLine := by
  have := nm_few h
  unfold nmKv
  rw [List.length_map]
  rw [sizeLine_eq]
  omega
def spCond : Sp := fun vs H Q _ => ∃ (x : V) (c : Cond) (hd : Nat) (tv : V) (fd : Addr) (zs : List Nm), vs = [x, vInt hd, tv, .ref fd] ∧ Dv H x (condD c) ∧ condOk hd c ∧ zs.Nodup ∧ H fd = some (.dK (nmKv zs)) ∧
  ∀ H', Kx fd H H' → H' fd = some (.dK (nmKv (nmAdd zs c))) → Q (.bl true) H'
theorem sc_is_condition : FnScope ["value", "heads", "tapes", "found", "word", "head"] ["value", "heads", "tapes", "found"] (defScope s_is_condition) := ⟨rfl, rfl, rfl, by decide +kernel, rfl, by decide +kernel, by decide +kernel⟩
theorem d_is_condition (T : Txt w K mg) : Def P w K mg base CX0 5 ("is_condition", none) ["value", "heads", "tapes", "found"] (spCond) := by
  refine Def.of0 (k := 4) T.f_is_condition sc_is_condition (fun _ _ _ _ _ _ us hl => match us, hl with | [_, _, _, _], _ => rfl) (fun vs H Q E h => ?_) (fun cdv A outer s H vs Q E hr h => ?_)
  · obtain ⟨x, c, hd, tv, fd, zs, rfl, _⟩ := h
    rfl
  · obtain ⟨x, c, hd, tv, fd, zs, rfl, hc, ok, nd, hf, q⟩ := h
    obtain ⟨es, n, D⟩ := T.d_CONDITIONS
    refine ⟨_, ((pss_cons (ps_if (PW.pt (pw_or (pt_not (pt_val (pe_b call_isD T.b_isinstance (pa_cons (pv 0) (pa_cons (pe_tyv (T := "tuple") T.b_tuple) pa_nil))))) (pw_or (pt_not (pt_truth (pv 0) (by intro _; rfl))) (pw_or1 (pt_not (pt_val (pe_b call_isD T.b_isinstance (pa_cons (pe_ix ix_tup (pv 0) pe_int (fun _ _ => rfl)) (pa_cons (pe_tyv (T := "str") T.b_str) pa_nil)))))))))
       (pss_one (ps_ret pe_bl))
       pss_nil)
       (pss_cons (ps_if (PW.pt (pw_or (pt_cmpR op_ne (pe_kdget D (pe_gr T.g_CONDITIONS) (pe_ix ix_tup (pv 0) pe_int (fun _ _ => rfl))) (pe_b call_len_seq T.b_len (pa_cons (pv 0) pa_nil)) (nomark _)) (pw_or1 (pt_not (pt_val (pe_b call_isD T.b_isinstance (pa_cons (pe_ix ix_tup (pv 0) (pe_un un_neg pe_int) (fun _ _ => rfl)) (pa_cons (pe_tyv (T := "bool") T.b_bool) pa_nil))))))))
       (pss_one (ps_ret pe_bl))
       pss_nil)
       (pss_cons (ps_set (i := 4) sc_is_condition.nd rfl (Or.inl rfl) (pe_ix ix_tup (pv 0) pe_int (fun _ _ => rfl)))
       (pss_cons (ps_if (pt_cmpR op_eq (pv 4) pe_str (nomark _))
       (pss_cons (ps_if (PW.pt (pw_or (pt_not (pt_val (pe_f (d_is_name T) (hr.mono (by decide)) T.g_is_name pass0 (pa_cons (pe_ix ix_tup (pv 0) pe_int (fun _ _ => rfl)) pa_nil)))) (pw_or (pt_not (pt_val (pe_b call_isD T.b_isinstance (pa_cons (pe_ix ix_tup (pv 0) pe_int (fun _ _ => rfl)) (pa_cons (pe_tyv (T := "tuple") T.b_tuple) pa_nil))))) (pw_or1 (pt_cmpR op_gt (pe_b call_len_seq T.b_len (pa_cons (pe_ix ix_tup (pv 0) pe_int (fun _ _ => rfl)) pa_nil)) (pe_gi T.i_PLACES) (nomark _))))))
       (pss_one (ps_ret pe_bl))
       pss_nil)
       (pss_cons (ps_if (pt_cmpR op_ne (pe_dsetd (pv 3) (pe_ix ix_tup (pv 0) pe_int (fun _ _ => rfl)) (pe_b call_len_seq T.b_len (pa_cons (pe_ix ix_tup (pv 0) pe_int (fun _ _ => rfl)) pa_nil)) ⟨rfl, rfl, rfl, rfl⟩) (pe_b call_len_seq T.b_len (pa_cons (pe_ix ix_tup (pv 0) pe_int (fun _ _ => rfl)) pa_nil)) (nomark _))
       (pss_one (ps_ret pe_bl))
       pss_nil)
       (pss_one (ps_ret (pe_f (d_are_heads T) (hr.mono (by decide)) T.g_are_heads pass0 (pa_cons (pe_ix ix_tup (pv 0) pe_int (fun _ _ => rfl)) (pa_cons (pe_b call_len_seq T.b_len (pa_cons (pe_ix ix_tup (pv 0) pe_int (fun _ _ => rfl)) pa_nil)) (pa_cons (pv 1) pa_nil))))))))
       pss_nil)
       (pss_cons (ps_if (pt_cmpR op_eq (pv 4) pe_str (nomark _))
       (pss_one (ps_ret (pe_and (pe_f (d_is_below T) (hr.mono (by decide)) T.g_is_below pass0 (pa_cons (pe_ix ix_tup (pv 0) pe_int (fun _ _ => rfl)) (pa_cons (pe_b call_len_seq T.b_len (pa_cons (pv 2) pa_nil)) pa_nil))) (pe_one (pe_f (d_are_heads T) (hr.mono (by decide)) T.g_are_heads pass0 (pa_cons (pe_ix ix_tup (pv 0) pe_int (fun _ _ => rfl)) (pa_cons (pe_ix ix_tup (pv 2) (pe_ix ix_tup (pv 0) pe_int (fun _ _ => rfl)) (fun _ _ => rfl)) (pa_cons (pv 1) pa_nil))))))))
       pss_nil)
       (pss_cons (ps_for PassesOwn.never rfl (pi_tup (pe_slice sl_tupA (pv 0) (po_some pe_int) (po_some (pe_un un_neg pe_int)))) (pg_name (i := 5) sc_is_condition.nd rfl (Or.inl rfl))
       (pss_one (ps_if (pt_not (pt_val (pe_f (d_is_below T) (hr.mono (by decide)) T.g_is_below pass0 (pa_cons (pv 5) (pa_cons (pv 1) pa_nil)))))
       (pss_one (ps_ret pe_bl))
       pss_nil)))
       (pss_one (ps_ret pe_bl))))))))), ?_⟩
    cases c with
    | rel z is f =>
      obtain ⟨a, b, rfl, e1, e2⟩ := cond_rel hc
      obtain ⟨tk, ev⟩ := T.v_CONDITIONS_rel
      refine ⟨_, rfl, _, _, "tuple", rfl, by decide, hc, _, rfl, ?_⟩
      refine iteF ⟨_, rfl, _, .inr (.inl ⟨_, SqT.of e1, rfl⟩), iteFb rfl ⟨_, rfl, _, _, (0 : Int), _, rfl, rfl, SqT.of e1, rfl, _, _, "str", rfl, by decide, .str _, _, rfl, iteFb rfl ?_⟩⟩
      refine ⟨rfl, _, rfl, _, _, (0 : Int), _, rfl, rfl, SqT.of e1, rfl, "rel", _, .int 4, rfl, ev, ⟨tk, rfl⟩, ?_⟩
      refine ⟨_, rfl, a, _, rfl, .inr (SqT.of e1), rfl, _, rfl, iteFb (by rw [dec_int]; rfl) ?_⟩
      refine ⟨_, rfl, 1, rfl, _, _, (-1 : Int), _, rfl, rfl, SqT.of e1, rfl, _, _, "bool", rfl, by decide, .bl _, _, rfl, iteFb rfl ?_⟩
      refine ⟨_, rfl, _, _, (0 : Int), _, rfl, rfl, SqT.of e1, rfl, ?_⟩
      refine ⟨_, rfl, rfl, _, rfl, iteTb (by decide +kernel) ?_⟩
      refine ⟨_, rfl, _, _, (1 : Int), _, rfl, rfl, SqT.of e1, rfl, z, rfl, _, rfl, iteFb rfl ?_⟩
      refine ⟨_, rfl, _, _, (2 : Int), _, rfl, rfl, SqT.of e1, rfl, _, _, "tuple", rfl, by decide, .tup e2 (DvAll.nats is), _, rfl, iteFb rfl ?_⟩
      have hlen : is.length = z.ar := ok.1
      have h6 : decide ((6 : Int) < (((is.map vInt).length : Nat) : Int)) = false := by
        rw [List.length_map, hlen]
        cases z <;> decide
      refine ⟨_, rfl, _, _, (2 : Int), _, rfl, rfl, SqT.of e1, rfl, b, _, rfl, .inr (SqT.of e2), _, _, rfl, rfl, _, rfl, iteFb h6 ?_⟩
      have row : isRow (.tuple (is.map dInt)) (hd : Int) (is.map vInt).length = true := by
        show (decide ((is.map dInt).length = (is.map vInt).length) && (is.map dInt).all fun x => isBelow x hd) = true
        rw [List.length_map, List.length_map, decide_eq_true rfl, Bool.true_and, List.all_map, List.all_eq_true]
        intro i hi
        have := ok.2 i hi
        show (decide (0 ≤ (i : Int)) && decide ((i : Int) < hd)) = true
        rw [decide_eq_true (by omega), decide_eq_true (by omega)]
        rfl
      have ll : ((is.map vInt).length : Nat) = z.ar := by rw [List.length_map, hlen]
      refine ⟨_, rfl, fd, rfl, .inl ⟨_, .inl hf⟩, _, rfl, _, _, (1 : Int), _, rfl, rfl, SqT.of e1, rfl, _, rfl, _, _, (2 : Int), _, rfl, rfl, SqT.of e1, rfl, b, _, rfl, .inr (SqT.of e2), nmKv zs, .inr z.s, hf, rfl, nm_lt nd, ?_, ?_⟩
      · intro v hv
        rw [nmKv_val] at hv
        by_cases hz : z ∈ zs
        · rw [if_pos hz] at hv
          cases hv
          refine ⟨_, rfl, _, _, (2 : Int), _, rfl, rfl, SqT.of e1, rfl, b, _, rfl, .inr (SqT.of e2), rfl, _, rfl, iteFb (by rw [ll, decide_eq_true rfl]; rfl) ?_⟩
          refine ⟨_, rfl, _, _, (2 : Int), _, rfl, rfl, SqT.of e1, rfl, _, rfl, _, _, (2 : Int), _, rfl, rfl, SqT.of e1, rfl, b, _, rfl, .inr (SqT.of e2), _, rfl, _, _, hd, _, rfl, .tup e2 (DvAll.nats is), ?_⟩
          rw [row]
          refine q _ .refl ?_
          unfold nmAdd
          simp only
          rw [if_pos hz]
          exact hf
        · rw [if_neg hz] at hv
          cases hv
      · intro hv
        rw [nmKv_val] at hv
        by_cases hz : z ∈ zs
        · rw [if_pos hz] at hv
          cases hv
        · rw [ll, nmKv_put hz]
          have naf : a ≠ fd := ne_of e1 hf (by intro q; cases q)
          have nbf : b ≠ fd := ne_of e2 hf (by intro q; cases q)
          have e1' := (upd_ne (o := .dK (nmKv (zs ++ [z]))) naf).trans e1
          have e2' := (upd_ne (o := .dK (nmKv (zs ++ [z]))) nbf).trans e2
          refine ⟨_, rfl, _, _, (2 : Int), _, rfl, rfl, SqT.of e1', rfl, b, _, rfl, .inr (SqT.of e2'), rfl, _, rfl, iteFb (by rw [ll, decide_eq_true rfl]; rfl) ?_⟩
          refine ⟨_, rfl, _, _, (2 : Int), _, rfl, rfl, SqT.of e1', rfl, _, rfl, _, _, (2 : Int), _, rfl, rfl, SqT.of e1', rfl, b, _, rfl, .inr (SqT.of e2'), _, rfl, _, _, hd, _, rfl, .tup e2' (DvAll.nats is), ?_⟩
          rw [row]
          refine q _ .put ?_
          unfold nmAdd
          simp only
          rw [if_neg hz]
          exact upd_same
    | eq i j f =>
      obtain ⟨a, rfl, e1⟩ := cond_two hc
      obtain ⟨tk, ev⟩ := T.v_CONDITIONS_eq
      refine ⟨_, rfl, _, _, "tuple", rfl, by decide, hc, _, rfl, ?_⟩
      refine iteF ⟨_, rfl, _, .inr (.inl ⟨_, SqT.of e1, rfl⟩), iteFb rfl ⟨_, rfl, _, _, (0 : Int), _, rfl, rfl, SqT.of e1, rfl, _, _, "str", rfl, by decide, .str _, _, rfl, iteFb rfl ?_⟩⟩
      refine ⟨rfl, _, rfl, _, _, (0 : Int), _, rfl, rfl, SqT.of e1, rfl, "eq", _, .int 4, rfl, ev, ⟨tk, rfl⟩, ?_⟩
      refine ⟨_, rfl, a, _, rfl, .inr (SqT.of e1), rfl, _, rfl, iteFb (by rw [dec_int]; rfl) ?_⟩
      refine ⟨_, rfl, 1, rfl, _, _, (-1 : Int), _, rfl, rfl, SqT.of e1, rfl, _, _, "bool", rfl, by decide, .bl _, _, rfl, iteFb rfl ?_⟩
      refine ⟨_, rfl, _, _, (0 : Int), _, rfl, rfl, SqT.of e1, rfl, ?_⟩
      refine ⟨_, rfl, rfl, _, rfl, iteFb (by decide +kernel) ?_⟩
      refine ⟨_, rfl, rfl, _, rfl, iteFb (by decide +kernel) ?_⟩
      refine ⟨_, rfl, 1, rfl, 1, rfl, -1, rfl, a, _, rfl, SqT.of e1, fun z => absurd z.1 (show ¬ HT.sIx 4 0 (some 1) = 0 by decide), fun _ p np => ?_⟩
      have hall : ∀ k ∈ [i, j], k < hd := by
        simp only [List.mem_cons, List.not_mem_nil, or_false, forall_eq_or_imp, forall_eq]
        exact ok
      refine ⟨_, rfl, ⟨_, SqT.of upd_same⟩, for_tup (K := K) (a := p) (xs := [i, j].map vInt) (fun _ σ H' => H' = upd H p (.tup ([i, j].map vInt)) ∧ ∃ v, σ = [some (.ref a), some (vInt hd), some tv, some (.ref fd), some (.str "eq"), v]) ⟨rfl, _, rfl⟩ ?_ ?_ ?_⟩
      · rintro _ σ H' _ ⟨rfl, _⟩
        exact SqT.of upd_same
      · rintro t x σ H' hx ⟨rfl, v, rfl⟩
        rw [List.getElem?_map] at hx
        cases hk : [i, j][t]? with
        | none => rw [hk] at hx; cases hx
        | some k =>
          rw [hk] at hx
          cases hx
          have hkh := hall k (List.mem_of_getElem? hk)
          refine ⟨_, rfl, _, rfl, _, .int k, hd, rfl, .int _, _, rfl, iteFb ?_ ?_⟩
          · show (!(decide (0 ≤ (k : Int)) && decide ((k : Int) < hd))) = false
            rw [decide_eq_true (by omega), decide_eq_true (by omega)]
            rfl
          · exact ⟨rfl, _, rfl⟩
      · rintro σ H' ⟨rfl, v, rfl⟩
        exact q _ (.of (same_upd np)) (by rw [upd_ne (ne_of_none hf np)]; exact hf)
    | less i j f =>
      obtain ⟨a, rfl, e1⟩ := cond_two hc
      obtain ⟨tk, ev⟩ := T.v_CONDITIONS_less
      refine ⟨_, rfl, _, _, "tuple", rfl, by decide, hc, _, rfl, ?_⟩
      refine iteF ⟨_, rfl, _, .inr (.inl ⟨_, SqT.of e1, rfl⟩), iteFb rfl ⟨_, rfl, _, _, (0 : Int), _, rfl, rfl, SqT.of e1, rfl, _, _, "str", rfl, by decide, .str _, _, rfl, iteFb rfl ?_⟩⟩
      refine ⟨rfl, _, rfl, _, _, (0 : Int), _, rfl, rfl, SqT.of e1, rfl, "less", _, .int 4, rfl, ev, ⟨tk, rfl⟩, ?_⟩
      refine ⟨_, rfl, a, _, rfl, .inr (SqT.of e1), rfl, _, rfl, iteFb (by rw [dec_int]; rfl) ?_⟩
      refine ⟨_, rfl, 1, rfl, _, _, (-1 : Int), _, rfl, rfl, SqT.of e1, rfl, _, _, "bool", rfl, by decide, .bl _, _, rfl, iteFb rfl ?_⟩
      refine ⟨_, rfl, _, _, (0 : Int), _, rfl, rfl, SqT.of e1, rfl, ?_⟩
      refine ⟨_, rfl, rfl, _, rfl, iteFb (by decide +kernel) ?_⟩
      refine ⟨_, rfl, rfl, _, rfl, iteFb (by decide +kernel) ?_⟩
      refine ⟨_, rfl, 1, rfl, 1, rfl, -1, rfl, a, _, rfl, SqT.of e1, fun z => absurd z.1 (show ¬ HT.sIx 4 0 (some 1) = 0 by decide), fun _ p np => ?_⟩
      have hall : ∀ k ∈ [i, j], k < hd := by
        simp only [List.mem_cons, List.not_mem_nil, or_false, forall_eq_or_imp, forall_eq]
        exact ok
      refine ⟨_, rfl, ⟨_, SqT.of upd_same⟩, for_tup (K := K) (a := p) (xs := [i, j].map vInt) (fun _ σ H' => H' = upd H p (.tup ([i, j].map vInt)) ∧ ∃ v, σ = [some (.ref a), some (vInt hd), some tv, some (.ref fd), some (.str "less"), v]) ⟨rfl, _, rfl⟩ ?_ ?_ ?_⟩
      · rintro _ σ H' _ ⟨rfl, _⟩
        exact SqT.of upd_same
      · rintro t x σ H' hx ⟨rfl, v, rfl⟩
        rw [List.getElem?_map] at hx
        cases hk : [i, j][t]? with
        | none => rw [hk] at hx; cases hx
        | some k =>
          rw [hk] at hx
          cases hx
          have hkh := hall k (List.mem_of_getElem? hk)
          refine ⟨_, rfl, _, rfl, _, .int k, hd, rfl, .int _, _, rfl, iteFb ?_ ?_⟩
          · show (!(decide (0 ≤ (k : Int)) && decide ((k : Int) < hd))) = false
            rw [decide_eq_true (by omega), decide_eq_true (by omega)]
            rfl
          · exact ⟨rfl, _, rfl⟩
      · rintro σ H' ⟨rfl, v, rfl⟩
        exact q _ (.of (same_upd np)) (by rw [upd_ne (ne_of_none hf np)]; exact hf)
    | last i f =>
      obtain ⟨a, rfl, e1⟩ := cond_last hc
      obtain ⟨tk, ev⟩ := T.v_CONDITIONS_last
      refine ⟨_, rfl, _, _, "tuple", rfl, by decide, hc, _, rfl, ?_⟩
      refine iteF ⟨_, rfl, _, .inr (.inl ⟨_, SqT.of e1, rfl⟩), iteFb rfl ⟨_, rfl, _, _, (0 : Int), _, rfl, rfl, SqT.of e1, rfl, _, _, "str", rfl, by decide, .str _, _, rfl, iteFb rfl ?_⟩⟩
      refine ⟨rfl, _, rfl, _, _, (0 : Int), _, rfl, rfl, SqT.of e1, rfl, "last", _, .int 3, rfl, ev, ⟨tk, rfl⟩, ?_⟩
      refine ⟨_, rfl, a, _, rfl, .inr (SqT.of e1), rfl, _, rfl, iteFb (by rw [dec_int]; rfl) ?_⟩
      refine ⟨_, rfl, 1, rfl, _, _, (-1 : Int), _, rfl, rfl, SqT.of e1, rfl, _, _, "bool", rfl, by decide, .bl _, _, rfl, iteFb rfl ?_⟩
      refine ⟨_, rfl, _, _, (0 : Int), _, rfl, rfl, SqT.of e1, rfl, ?_⟩
      refine ⟨_, rfl, rfl, _, rfl, iteFb (by decide +kernel) ?_⟩
      refine ⟨_, rfl, rfl, _, rfl, iteFb (by decide +kernel) ?_⟩
      refine ⟨_, rfl, 1, rfl, 1, rfl, -1, rfl, a, _, rfl, SqT.of e1, fun z => absurd z.1 (show ¬ HT.sIx 3 0 (some 1) = 0 by decide), fun _ p np => ?_⟩
      have hall : ∀ k ∈ [i], k < hd := by
        simp only [List.mem_cons, List.not_mem_nil, or_false, forall_eq_or_imp, forall_eq]
        exact ok
      refine ⟨_, rfl, ⟨_, SqT.of upd_same⟩, for_tup (K := K) (a := p) (xs := [i].map vInt) (fun _ σ H' => H' = upd H p (.tup ([i].map vInt)) ∧ ∃ v, σ = [some (.ref a), some (vInt hd), some tv, some (.ref fd), some (.str "last"), v]) ⟨rfl, _, rfl⟩ ?_ ?_ ?_⟩
      · rintro _ σ H' _ ⟨rfl, _⟩
        exact SqT.of upd_same
      · rintro t x σ H' hx ⟨rfl, v, rfl⟩
        rw [List.getElem?_map] at hx
        cases hk : [i][t]? with
        | none => rw [hk] at hx; cases hx
        | some k =>
          rw [hk] at hx
          cases hx
          have hkh := hall k (List.mem_of_getElem? hk)
          refine ⟨_, rfl, _, rfl, _, .int k, hd, rfl, .int _, _, rfl, iteFb ?_ ?_⟩
          · show (!(decide (0 ≤ (k : Int)) && decide ((k : Int) < hd))) = false
            rw [decide_eq_true (by omega), decide_eq_true (by omega)]
            rfl
          · exact ⟨rfl, _, rfl⟩
      · rintro σ H' ⟨rfl, v, rfl⟩
        exact q _ (.of (same_upd np)) (by rw [upd_ne (ne_of_none hf np)]; exact hf)
def spAct : Sp := fun vs H Q _ => ∃ (x : V) (c : Act) (hd : Nat) (tv : V), vs = [x, vInt hd, tv] ∧ Dv H x (actD c) ∧ actOk hd c ∧ ∀ H', Same H H' → Q (.bl true) H'
theorem sc_is_action : FnScope ["value", "heads", "tapes", "head"] ["value", "heads", "tapes"] (defScope s_is_action) := ⟨rfl, rfl, rfl, by decide +kernel, rfl, by decide +kernel, by decide +kernel⟩
theorem d_is_action (T : Txt w K mg) : Def P w K mg base CX0 5 ("is_action", none) ["value", "heads", "tapes"] (spAct) := by
  refine Def.of0 (k := 4) T.f_is_action sc_is_action (fun _ _ _ _ _ _ us hl => match us, hl with | [_, _, _], _ => rfl) (fun vs H Q E h => ?_) (fun cdv A outer s H vs Q E hr h => ?_)
  · obtain ⟨x, c, hd, tv, rfl, _⟩ := h
    rfl
  · obtain ⟨x, c, hd, tv, rfl, hc, ok, q⟩ := h
    obtain ⟨es, n, D⟩ := T.d_ACTIONS
    refine ⟨_, ((pss_cons (ps_if (PW.pt (pw_or (pt_not (pt_val (pe_b call_isD T.b_isinstance (pa_cons (pv 0) (pa_cons (pe_tyv (T := "tuple") T.b_tuple) pa_nil))))) (pw_or (pt_not (pt_truth (pv 0) (by intro _; rfl))) (pw_or1 (pt_not (pt_val (pe_b call_isD T.b_isinstance (pa_cons (pe_ix ix_tup (pv 0) pe_int (fun _ _ => rfl)) (pa_cons (pe_tyv (T := "str") T.b_str) pa_nil)))))))))
       (pss_one (ps_ret pe_bl))
       pss_nil)
       (pss_cons (ps_if (pt_cmpR op_ne (pe_kdget D (pe_gr T.g_ACTIONS) (pe_ix ix_tup (pv 0) pe_int (fun _ _ => rfl))) (pe_b call_len_seq T.b_len (pa_cons (pv 0) pa_nil)) (nomark _))
       (pss_one (ps_ret pe_bl))
       pss_nil)
       (pss_cons (ps_if (pt_cmpR op_eq (pe_ix ix_tup (pv 0) pe_int (fun _ _ => rfl)) pe_str (nomark _))
       (pss_cons (ps_if (PW.pt (pw_or (pt_not (pt_val (pe_f (d_is_below T) (hr.mono (by decide)) T.g_is_below pass0 (pa_cons (pe_ix ix_tup (pv 0) pe_int (fun _ _ => rfl)) (pa_cons (pe_b call_len_seq T.b_len (pa_cons (pv 2) pa_nil)) pa_nil))))) (pw_or1 (pt_not (pt_val (pe_b call_isD T.b_isinstance (pa_cons (pe_ix ix_tup (pv 0) pe_int (fun _ _ => rfl)) (pa_cons (pe_tyv (T := "bool") T.b_bool) pa_nil))))))))
       (pss_one (ps_ret pe_bl))
       pss_nil)
       (pss_one (ps_ret (pe_f (d_are_heads T) (hr.mono (by decide)) T.g_are_heads pass0 (pa_cons (pe_ix ix_tup (pv 0) pe_int (fun _ _ => rfl)) (pa_cons (pe_ix ix_tup (pv 2) (pe_ix ix_tup (pv 0) pe_int (fun _ _ => rfl)) (fun _ _ => rfl)) (pa_cons (pv 1) pa_nil)))))))
       pss_nil)
       (pss_cons (ps_for PassesOwn.never rfl (pi_tup (pe_slice sl_tupA (pv 0) (po_some pe_int) po_none)) (pg_name (i := 3) sc_is_action.nd rfl (Or.inl rfl))
       (pss_one (ps_if (pt_not (pt_val (pe_f (d_is_below T) (hr.mono (by decide)) T.g_is_below pass0 (pa_cons (pv 3) (pa_cons (pv 1) pa_nil)))))
       (pss_one (ps_ret pe_bl))
       pss_nil)))
       (pss_one (ps_ret pe_bl))))))), ?_⟩
    cases c with
    | up i =>
      obtain ⟨a, rfl, e1⟩ := act_one hc
      obtain ⟨tk, ev⟩ := T.v_ACTIONS_up
      refine ⟨_, rfl, _, _, "tuple", rfl, by decide, hc, _, rfl, ?_⟩
      refine iteF ⟨_, rfl, _, .inr (.inl ⟨_, SqT.of e1, rfl⟩), iteFb rfl ⟨_, rfl, _, _, (0 : Int), _, rfl, rfl, SqT.of e1, rfl, _, _, "str", rfl, by decide, .str _, _, rfl, iteFb rfl ?_⟩⟩
      refine ⟨rfl, _, rfl, _, _, (0 : Int), _, rfl, rfl, SqT.of e1, rfl, "up", _, .int 2, rfl, ev, ⟨tk, rfl⟩, ?_⟩
      refine ⟨_, rfl, a, _, rfl, .inr (SqT.of e1), rfl, _, rfl, iteFb (by rw [dec_int]; rfl) ?_⟩
      refine ⟨_, rfl, _, _, (0 : Int), _, rfl, rfl, SqT.of e1, rfl, rfl, _, rfl, iteFb (by decide +kernel) ?_⟩
      refine ⟨_, rfl, 1, rfl, a, _, rfl, SqT.of e1, fun z => absurd z.1 (show ¬ HT.sIx 2 0 (some 1) = 0 by decide), fun _ p np => ?_⟩
      have hall : ∀ k ∈ [i], k < hd := by
        simp only [List.mem_cons, List.not_mem_nil, or_false, forall_eq_or_imp, forall_eq]
        exact ok
      refine ⟨_, rfl, ⟨_, SqT.of upd_same⟩, for_tup (K := K) (a := p) (xs := [i].map vInt) (fun _ σ H' => H' = upd H p (.tup ([i].map vInt)) ∧ ∃ v, σ = [some (.ref a), some (vInt hd), some tv, v]) ⟨rfl, _, rfl⟩ ?_ ?_ ?_⟩
      · rintro _ σ H' _ ⟨rfl, _⟩
        exact SqT.of upd_same
      · rintro t x σ H' hx ⟨rfl, v, rfl⟩
        rw [List.getElem?_map] at hx
        cases hk : [i][t]? with
        | none => rw [hk] at hx; cases hx
        | some k =>
          rw [hk] at hx
          cases hx
          have hkh := hall k (List.mem_of_getElem? hk)
          refine ⟨_, rfl, _, rfl, _, .int k, hd, rfl, .int _, _, rfl, iteFb ?_ ?_⟩
          · show (!(decide (0 ≤ (k : Int)) && decide ((k : Int) < hd))) = false
            rw [decide_eq_true (by omega), decide_eq_true (by omega)]
            rfl
          · exact ⟨rfl, _, rfl⟩
      · rintro σ H' ⟨rfl, v, rfl⟩
        exact q _ (same_upd np)
    | down i =>
      obtain ⟨a, rfl, e1⟩ := act_one hc
      obtain ⟨tk, ev⟩ := T.v_ACTIONS_down
      refine ⟨_, rfl, _, _, "tuple", rfl, by decide, hc, _, rfl, ?_⟩
      refine iteF ⟨_, rfl, _, .inr (.inl ⟨_, SqT.of e1, rfl⟩), iteFb rfl ⟨_, rfl, _, _, (0 : Int), _, rfl, rfl, SqT.of e1, rfl, _, _, "str", rfl, by decide, .str _, _, rfl, iteFb rfl ?_⟩⟩
      refine ⟨rfl, _, rfl, _, _, (0 : Int), _, rfl, rfl, SqT.of e1, rfl, "down", _, .int 2, rfl, ev, ⟨tk, rfl⟩, ?_⟩
      refine ⟨_, rfl, a, _, rfl, .inr (SqT.of e1), rfl, _, rfl, iteFb (by rw [dec_int]; rfl) ?_⟩
      refine ⟨_, rfl, _, _, (0 : Int), _, rfl, rfl, SqT.of e1, rfl, rfl, _, rfl, iteFb (by decide +kernel) ?_⟩
      refine ⟨_, rfl, 1, rfl, a, _, rfl, SqT.of e1, fun z => absurd z.1 (show ¬ HT.sIx 2 0 (some 1) = 0 by decide), fun _ p np => ?_⟩
      have hall : ∀ k ∈ [i], k < hd := by
        simp only [List.mem_cons, List.not_mem_nil, or_false, forall_eq_or_imp, forall_eq]
        exact ok
      refine ⟨_, rfl, ⟨_, SqT.of upd_same⟩, for_tup (K := K) (a := p) (xs := [i].map vInt) (fun _ σ H' => H' = upd H p (.tup ([i].map vInt)) ∧ ∃ v, σ = [some (.ref a), some (vInt hd), some tv, v]) ⟨rfl, _, rfl⟩ ?_ ?_ ?_⟩
      · rintro _ σ H' _ ⟨rfl, _⟩
        exact SqT.of upd_same
      · rintro t x σ H' hx ⟨rfl, v, rfl⟩
        rw [List.getElem?_map] at hx
        cases hk : [i][t]? with
        | none => rw [hk] at hx; cases hx
        | some k =>
          rw [hk] at hx
          cases hx
          have hkh := hall k (List.mem_of_getElem? hk)
          refine ⟨_, rfl, _, rfl, _, .int k, hd, rfl, .int _, _, rfl, iteFb ?_ ?_⟩
          · show (!(decide (0 ≤ (k : Int)) && decide ((k : Int) < hd))) = false
            rw [decide_eq_true (by omega), decide_eq_true (by omega)]
            rfl
          · exact ⟨rfl, _, rfl⟩
      · rintro σ H' ⟨rfl, v, rfl⟩
        exact q _ (same_upd np)
    | zero i =>
      obtain ⟨a, rfl, e1⟩ := act_one hc
      obtain ⟨tk, ev⟩ := T.v_ACTIONS_zero
      refine ⟨_, rfl, _, _, "tuple", rfl, by decide, hc, _, rfl, ?_⟩
      refine iteF ⟨_, rfl, _, .inr (.inl ⟨_, SqT.of e1, rfl⟩), iteFb rfl ⟨_, rfl, _, _, (0 : Int), _, rfl, rfl, SqT.of e1, rfl, _, _, "str", rfl, by decide, .str _, _, rfl, iteFb rfl ?_⟩⟩
      refine ⟨rfl, _, rfl, _, _, (0 : Int), _, rfl, rfl, SqT.of e1, rfl, "zero", _, .int 2, rfl, ev, ⟨tk, rfl⟩, ?_⟩
      refine ⟨_, rfl, a, _, rfl, .inr (SqT.of e1), rfl, _, rfl, iteFb (by rw [dec_int]; rfl) ?_⟩
      refine ⟨_, rfl, _, _, (0 : Int), _, rfl, rfl, SqT.of e1, rfl, rfl, _, rfl, iteFb (by decide +kernel) ?_⟩
      refine ⟨_, rfl, 1, rfl, a, _, rfl, SqT.of e1, fun z => absurd z.1 (show ¬ HT.sIx 2 0 (some 1) = 0 by decide), fun _ p np => ?_⟩
      have hall : ∀ k ∈ [i], k < hd := by
        simp only [List.mem_cons, List.not_mem_nil, or_false, forall_eq_or_imp, forall_eq]
        exact ok
      refine ⟨_, rfl, ⟨_, SqT.of upd_same⟩, for_tup (K := K) (a := p) (xs := [i].map vInt) (fun _ σ H' => H' = upd H p (.tup ([i].map vInt)) ∧ ∃ v, σ = [some (.ref a), some (vInt hd), some tv, v]) ⟨rfl, _, rfl⟩ ?_ ?_ ?_⟩
      · rintro _ σ H' _ ⟨rfl, _⟩
        exact SqT.of upd_same
      · rintro t x σ H' hx ⟨rfl, v, rfl⟩
        rw [List.getElem?_map] at hx
        cases hk : [i][t]? with
        | none => rw [hk] at hx; cases hx
        | some k =>
          rw [hk] at hx
          cases hx
          have hkh := hall k (List.mem_of_getElem? hk)
          refine ⟨_, rfl, _, rfl, _, .int k, hd, rfl, .int _, _, rfl, iteFb ?_ ?_⟩
          · show (!(decide (0 ≤ (k : Int)) && decide ((k : Int) < hd))) = false
            rw [decide_eq_true (by omega), decide_eq_true (by omega)]
            rfl
          · exact ⟨rfl, _, rfl⟩
      · rintro σ H' ⟨rfl, v, rfl⟩
        exact q _ (same_upd np)
    | copy i j =>
      obtain ⟨a, rfl, e1⟩ := act_two hc
      obtain ⟨tk, ev⟩ := T.v_ACTIONS_copy
      refine ⟨_, rfl, _, _, "tuple", rfl, by decide, hc, _, rfl, ?_⟩
      refine iteF ⟨_, rfl, _, .inr (.inl ⟨_, SqT.of e1, rfl⟩), iteFb rfl ⟨_, rfl, _, _, (0 : Int), _, rfl, rfl, SqT.of e1, rfl, _, _, "str", rfl, by decide, .str _, _, rfl, iteFb rfl ?_⟩⟩
      refine ⟨rfl, _, rfl, _, _, (0 : Int), _, rfl, rfl, SqT.of e1, rfl, "copy", _, .int 3, rfl, ev, ⟨tk, rfl⟩, ?_⟩
      refine ⟨_, rfl, a, _, rfl, .inr (SqT.of e1), rfl, _, rfl, iteFb (by rw [dec_int]; rfl) ?_⟩
      refine ⟨_, rfl, _, _, (0 : Int), _, rfl, rfl, SqT.of e1, rfl, rfl, _, rfl, iteFb (by decide +kernel) ?_⟩
      refine ⟨_, rfl, 1, rfl, a, _, rfl, SqT.of e1, fun z => absurd z.1 (show ¬ HT.sIx 3 0 (some 1) = 0 by decide), fun _ p np => ?_⟩
      have hall : ∀ k ∈ [i, j], k < hd := by
        simp only [List.mem_cons, List.not_mem_nil, or_false, forall_eq_or_imp, forall_eq]
        exact ok
      refine ⟨_, rfl, ⟨_, SqT.of upd_same⟩, for_tup (K := K) (a := p) (xs := [i, j].map vInt) (fun _ σ H' => H' = upd H p (.tup ([i, j].map vInt)) ∧ ∃ v, σ = [some (.ref a), some (vInt hd), some tv, v]) ⟨rfl, _, rfl⟩ ?_ ?_ ?_⟩
      · rintro _ σ H' _ ⟨rfl, _⟩
        exact SqT.of upd_same
      · rintro t x σ H' hx ⟨rfl, v, rfl⟩
        rw [List.getElem?_map] at hx
        cases hk : [i, j][t]? with
        | none => rw [hk] at hx; cases hx
        | some k =>
          rw [hk] at hx
          cases hx
          have hkh := hall k (List.mem_of_getElem? hk)
          refine ⟨_, rfl, _, rfl, _, .int k, hd, rfl, .int _, _, rfl, iteFb ?_ ?_⟩
          · show (!(decide (0 ≤ (k : Int)) && decide ((k : Int) < hd))) = false
            rw [decide_eq_true (by omega), decide_eq_true (by omega)]
            rfl
          · exact ⟨rfl, _, rfl⟩
      · rintro σ H' ⟨rfl, v, rfl⟩
        exact q _ (same_upd np)
end K54
set_option Elab.async false
set_option linter.all false
set_option maxRecDepth 100000
set_option maxHeartbeats 4000000
set_option pp.maxSteps 800
namespace K54
open PySem PySem.Spec PyProof.Rows L2
variable {P : Program} {w : World} {K : PySem.W.Frag} {mg : Str → Option Value} {base : Heap}
theorem foldl_take {α β : Type} {f : β → α → β} {b : β} {l : List α} {i : Nat} {x : α} (h : l[i]? = some x) : (l.take (i + 1)).foldl f b = f ((l.take i).foldl f b) x := by
  rw [List.take_add_one, h, List.foldl_append]
  rfl
theorem below_nat {i n : Nat} (h : i < n) : isBelow (dInt i) (n : Int) = true := by
  show (decide (0 ≤ (i : Int)) && decide ((i : Int) < n)) = true
  rw [decide_eq_true (by omega), decide_eq_true (by omega)]
  rfl
def spRuleC : Sp := fun vs H Q _ => ∃ (x : V) (r : Rule) (hd st : Nat) (tv : V) (fd : Addr) (zs : List Nm), vs = [x, vInt hd, tv, vInt st, .ref fd] ∧ Dv H x (ruleD r) ∧ RuleOk hd st r ∧ zs.Nodup ∧ H fd = some (.dK (nmKv zs)) ∧
  ∀ H', Kx fd H H' → H' fd = some (.dK (nmKv (nmAdds zs r.cs))) → Q .non H'
theorem sc_check_rule : FnScope ["rule", "heads", "tapes", "states", "found", "state", "conditions", "actions", "after", "condition", "action"] ["rule", "heads", "tapes", "states", "found"] (defScope s_check_rule) := ⟨rfl, rfl, rfl, by decide +kernel, rfl, by decide +kernel, by decide +kernel⟩
theorem d_check_rule (T : Txt w K mg) : Def P w K mg base CX0 6 ("check_rule", none) ["rule", "heads", "tapes", "states", "found"] (spRuleC) := by
  refine Def.of0 (k := 5) T.f_check_rule sc_check_rule (fun _ _ _ _ _ _ us hl => match us, hl with | [_, _, _, _, _], _ => rfl) (fun vs H Q E h => ?_) (fun cdv A outer s H vs Q E hr h => ?_)
  · obtain ⟨x, r, hd, st, tv, fd, zs, rfl, _⟩ := h
    rfl
  · obtain ⟨x, r, hd, st, tv, fd, zs, rfl, hr0, ok, nd, hf, q⟩ := h
    refine ⟨_, ((pss_cons (ps_if (PW.pt (pw_or (pt_not (pt_val (pe_b call_isD T.b_isinstance (pa_cons (pv 0) (pa_cons (pe_tyv (T := "tuple") T.b_tuple) pa_nil))))) (pw_or1 (pt_cmpR op_ne (pe_b call_len_seq T.b_len (pa_cons (pv 0) pa_nil)) pe_int (nomark _)))))
       (pss_one ps_never)
       pss_nil)
       (pss_cons (ps_asg (pv 0) (pg_tup rfl (pgs_cons (pg_name (i := 5) sc_check_rule.nd rfl (Or.inl rfl)) (pgs_cons (pg_name (i := 6) sc_check_rule.nd rfl (Or.inl rfl)) (pgs_cons (pg_name (i := 7) sc_check_rule.nd rfl (Or.inl rfl)) (pgs_cons (pg_name (i := 8) sc_check_rule.nd rfl (Or.inl rfl)) pgs_nil))))))
       (pss_cons (ps_if (PW.pt (pw_or (pt_not (pt_val (pe_f (d_is_below T) (hr.mono (by decide)) T.g_is_below pass0 (pa_cons (pv 5) (pa_cons (pv 3) pa_nil))))) (pw_or (pt_cmpR op_eq (pv 5) (pe_gi T.i_ACCEPTING) (nomark _)) (pw_or1 (pt_not (pt_val (pe_f (d_is_below T) (hr.mono (by decide)) T.g_is_below pass0 (pa_cons (pv 8) (pa_cons (pv 3) pa_nil)))))))))
       (pss_one ps_never)
       pss_nil)
       (pss_cons (ps_if (PW.pt (pw_or (pt_not (pt_val (pe_b call_isD T.b_isinstance (pa_cons (pv 6) (pa_cons (pe_tyv (T := "tuple") T.b_tuple) pa_nil))))) (pw_or1 (pt_cmpR op_gt (pe_b call_len_seq T.b_len (pa_cons (pv 6) pa_nil)) (pe_gi T.i_WORDS_machines) (nomark _)))))
       (pss_one ps_never)
       pss_nil)
       (pss_cons (ps_if (PW.pt (pw_or (pt_not (pt_val (pe_b call_isD T.b_isinstance (pa_cons (pv 7) (pa_cons (pe_tyv (T := "tuple") T.b_tuple) pa_nil))))) (pw_or1 (pt_cmpR op_gt (pe_b call_len_seq T.b_len (pa_cons (pv 7) pa_nil)) (pe_gi T.i_WORDS_machines) (nomark _)))))
       (pss_one ps_never)
       pss_nil)
       (pss_cons (ps_for PassesOwn.never rfl (pi_tup (pv 6)) (pg_name (i := 9) sc_check_rule.nd rfl (Or.inl rfl))
       (pss_one (ps_if (pt_not (pt_val (pe_f (d_is_condition T) (hr.mono (by decide)) T.g_is_condition pass0 (pa_cons (pv 9) (pa_cons (pv 1) (pa_cons (pv 2) (pa_cons (pv 4) pa_nil)))))))
       (pss_one ps_never)
       pss_nil)))
       (pss_one (ps_for PassesOwn.never rfl (pi_tup (pv 7)) (pg_name (i := 10) sc_check_rule.nd rfl (Or.inl rfl))
       (pss_one (ps_if (pt_not (pt_val (pe_f (d_is_action T) (hr.mono (by decide)) T.g_is_action pass0 (pa_cons (pv 10) (pa_cons (pv 1) (pa_cons (pv 2) pa_nil))))))
       (pss_one ps_never)
       pss_nil))))))))))), ?_⟩
    obtain ⟨a, c, d, xs, ys, rfl, e1, e2, q2, e3, q3⟩ := rule_inv hr0
    have l2 : xs.length = r.cs.length := by rw [q2.len, List.length_map]
    have l3 : ys.length = r.as.length := by rw [q3.len, List.length_map]
    have := ok.ncs
    have := ok.nas
    refine ⟨_, rfl, _, _, "tuple", rfl, by decide, hr0, _, rfl, ?_⟩
    refine iteF ⟨_, rfl, a, _, rfl, .inr (SqT.of e1), rfl, _, rfl, iteFb (by rw [dec_int]; rfl) ?_⟩
    refine ⟨_, rfl, a, _, rfl, SqT.of e1, rfl, _, _, rfl, _, _, rfl, _, _, rfl, _, _, rfl, rfl, ?_⟩
    refine ⟨_, rfl, _, rfl, _, .int r.q, st, rfl, .int _, _, rfl, iteFb (by rw [below_nat ok.q]; rfl) ?_⟩
    have n1 : ((r.q : Nat) : Int) ≠ 1 := by have := ok.q1; omega
    refine ⟨_, rfl, rfl, _, rfl, iteFb (by rw [dec_int]; exact beq_eq_false_iff_ne.mpr n1) ?_⟩
    refine ⟨_, rfl, _, rfl, _, .int r.q', st, rfl, .int _, _, rfl, iteFb (by rw [below_nat ok.q']; rfl) ?_⟩
    refine ⟨_, rfl, _, _, "tuple", rfl, by decide, .tup e2 q2, _, rfl, iteFb rfl ?_⟩
    refine ⟨_, rfl, c, _, rfl, .inr (SqT.of e2), _, _, rfl, rfl, _, rfl, iteFb (decide_eq_false (by omega)) ?_⟩
    refine ⟨_, rfl, _, _, "tuple", rfl, by decide, .tup e3 q3, _, rfl, iteFb rfl ?_⟩
    refine ⟨_, rfl, d, _, rfl, .inr (SqT.of e3), _, _, rfl, rfl, _, rfl, iteFb (decide_eq_false (by omega)) ?_⟩
    have nc : c ≠ fd := ne_of e2 hf (by intro z; cases z)
    have ndd : d ≠ fd := ne_of e3 hf (by intro z; cases z)
    refine ⟨_, rfl, c, rfl, ⟨_, SqT.of e2⟩, for_tup (K := K) (a := c) (xs := xs) (fun i σ H' => Kx fd H H' ∧ H' fd = some (.dK (nmKv (nmAdds zs (r.cs.take i)))) ∧
      ∃ v w, σ = [some (.ref a), some (vInt hd), some tv, some (vInt st), some (.ref fd), some (vInt r.q), some (.ref c), some (.ref d), some (vInt r.q'), v, w]) ⟨.refl, hf, _, _, rfl⟩ ?_ ?_ ?_⟩
    · rintro i σ H' hi ⟨k1, _⟩
      exact SqT.of (k1 _ _ nc e2)
    · rintro i x σ H' hx ⟨k1, hf', v, w', rfl⟩
      obtain ⟨cd, hcd, rcd⟩ := q2.gets hx
      have tp := k1.tups hf (by intro ys z; cases z)
      refine ⟨_, rfl, _, rfl, _, rfl, _, rfl, x, cd, hd, tv, fd, _, rfl, rcd.monoT tp (noL_cond cd), ok.cs cd (List.mem_of_getElem? hcd), nmAdds_nodup nd _, hf', fun H2 k2 hf2 => ?_⟩
      refine ⟨_, rfl, iteFb rfl ?_⟩
      refine ⟨k1.trans k2, ?_, _, _, rfl⟩
      rw [hf2]
      unfold nmAdds
      rw [foldl_take hcd]
    · rintro σ H1 ⟨k1, hf1, v, w', rfl⟩
      rw [l2, List.take_length] at hf1
      refine ⟨_, rfl, d, rfl, ⟨_, SqT.of (k1 _ _ ndd e3)⟩, for_tup (K := K) (a := d) (xs := ys) (fun i σ H' => Same H1 H' ∧
        ∃ w, σ = [some (.ref a), some (vInt hd), some tv, some (vInt st), some (.ref fd), some (vInt r.q), some (.ref c), some (.ref d), some (vInt r.q'), v, w]) ⟨Same.rf, _, rfl⟩ ?_ ?_ ?_⟩
      · rintro i σ H' hi ⟨s1, _⟩
        exact SqT.of (s1 _ _ (k1 _ _ ndd e3))
      · rintro i x σ H' hx ⟨s1, w', rfl⟩
        obtain ⟨cd, hcd, rcd⟩ := q3.gets hx
        have tp := (k1.tups hf (by intro ys z; cases z)).trans (Same.tupS s1)
        refine ⟨_, rfl, _, rfl, _, rfl, x, cd, hd, tv, rfl, rcd.monoT tp (noL_act cd), ok.as cd (List.mem_of_getElem? hcd), fun H2 s2 => ?_⟩
        refine ⟨_, rfl, iteFb rfl ?_⟩
        exact ⟨Same.tr s1 s2, _, rfl⟩
      · rintro σ H' ⟨s1, w', rfl⟩
        exact q _ (k1.trans (.of s1)) (s1 _ _ hf1)
def spLook : Sp := fun vs H Q _ => ∃ (x : V) (m : Mach), vs = [x] ∧ Dv H x (machD m) ∧ MachOk m ∧ ∀ H' d, Same H H' → H d = none → H' d = some (.dK (nmKv (nmOf m))) → Q (.ref d) H'
theorem nmOf_nodup {l : List Rule} : ∀ {zs : List Nm}, zs.Nodup → (l.foldl (fun zs r => nmAdds zs r.cs) zs).Nodup := by
  induction l with
  | nil => exact fun h => h
  | cons r l ih => exact fun h => ih (nmAdds_nodup h _)
theorem sc_looked_at : FnScope ["machine", "heads", "tapes", "states", "rules", "arity", "found", "rule"] ["machine"] (defScope s_looked_at) := ⟨rfl, rfl, rfl, by decide +kernel, rfl, by decide +kernel, by decide +kernel⟩
theorem d_looked_at (T : Txt w K mg) : Def P w K mg base CX0 7 ("looked_at", none) ["machine"] (spLook) := by
  refine Def.of0 (k := 6) T.f_looked_at sc_looked_at (fun _ _ _ _ _ _ us hl => match us, hl with | [_], _ => rfl) (fun vs H Q E h => ?_) (fun cdv A outer s H vs Q E hr h => ?_)
  · obtain ⟨x, m, rfl, _⟩ := h
    rfl
  · obtain ⟨x, m, rfl, hm, ok, q⟩ := h
    refine ⟨_, ((pss_cons (ps_if (PW.pt (pw_or (pt_not (pt_val (pe_b call_isD T.b_isinstance (pa_cons (pv 0) (pa_cons (pe_tyv (T := "tuple") T.b_tuple) pa_nil))))) (pw_or1 (pt_cmpR op_ne (pe_b call_len_seq T.b_len (pa_cons (pv 0) pa_nil)) pe_int (nomark _)))))
       (pss_one ps_never)
       pss_nil)
       (pss_cons (ps_asg (pv 0) (pg_tup rfl (pgs_cons (pg_name (i := 1) sc_looked_at.nd rfl (Or.inl rfl)) (pgs_cons (pg_name (i := 2) sc_looked_at.nd rfl (Or.inl rfl)) (pgs_cons (pg_name (i := 3) sc_looked_at.nd rfl (Or.inl rfl)) (pgs_cons (pg_name (i := 4) sc_looked_at.nd rfl (Or.inl rfl)) pgs_nil))))))
       (pss_cons (ps_if (pt_not (pt_val (pe_f (d_is_below T) (hr.mono (by decide)) T.g_is_below pass0 (pa_cons (pv 1) (pa_cons (pe_op op_add (pe_gi T.i_HEADS) pe_int) pa_nil)))))
       (pss_one ps_never)
       pss_nil)
       (pss_cons (ps_if (PW.pt (pw_or (pt_not (pt_val (pe_b call_isD T.b_isinstance (pa_cons (pv 2) (pa_cons (pe_tyv (T := "tuple") T.b_tuple) pa_nil))))) (pw_or1 (pt_cmpR op_gt (pe_b call_len_seq T.b_len (pa_cons (pv 2) pa_nil)) (pe_gi T.i_TAPES) (nomark _)))))
       (pss_one ps_never)
       pss_nil)
       (pss_cons (ps_for PassesOwn.never rfl (pi_tup (pv 2)) (pg_name (i := 5) sc_looked_at.nd rfl (Or.inl rfl))
       (pss_one (ps_if (pt_not (pt_val (pe_f (d_is_below T) (hr.mono (by decide)) T.g_is_below pass0 (pa_cons (pv 5) (pa_cons (pe_op op_add (pe_gi T.i_PLACES) pe_int) pa_nil)))))
       (pss_one ps_never)
       pss_nil)))
       (pss_cons (ps_if (PW.pt (pw_or (pt_not (pt_val (pe_f (d_is_integer T) (hr.mono (by decide)) T.g_is_integer pass0 (pa_cons (pv 3) pa_nil)))) (pw_or1 (pt_not (pt_chain op_le op_le pe_int (pv 3) (pe_gi T.i_STATES))))))
       (pss_one ps_never)
       pss_nil)
       (pss_cons (ps_if (PW.pt (pw_or (pt_not (pt_val (pe_b call_isD T.b_isinstance (pa_cons (pv 4) (pa_cons (pe_tyv (T := "tuple") T.b_tuple) pa_nil))))) (pw_or1 (pt_cmpR op_gt (pe_b call_len_seq T.b_len (pa_cons (pv 4) pa_nil)) (pe_gi T.i_RULES) (nomark _)))))
       (pss_one ps_never)
       pss_nil)
       (pss_cons (ps_set (i := 6) sc_looked_at.nd rfl (Or.inl rfl) pe_dnewK)
       (pss_cons (ps_for PassesOwn.never rfl (pi_tup (pv 4)) (pg_name (i := 7) sc_looked_at.nd rfl (Or.inl rfl))
       (pss_one (ps_expr (pe_f (d_check_rule T) (hr.mono (by decide)) T.g_check_rule pass0 (pa_cons (pv 7) (pa_cons (pv 1) (pa_cons (pv 2) (pa_cons (pv 3) (pa_cons (pv 6) pa_nil)))))))))
       (pss_one (ps_ret (pv 6))))))))))))), ?_⟩
    obtain ⟨a, c, d, ys, rfl, e1, e2, e3, q3⟩ := mach_inv hm
    have l3 : ys.length = m.rs.length := by rw [q3.len, List.length_map]
    have := ok.h
    have := ok.nts
    have := ok.st2
    have := ok.st
    have := ok.nrs
    refine ⟨_, rfl, _, _, "tuple", rfl, by decide, hm, _, rfl, ?_⟩
    refine iteF ⟨_, rfl, a, _, rfl, .inr (SqT.of e1), rfl, _, rfl, iteFb (by rw [dec_int]; rfl) ?_⟩
    refine ⟨_, rfl, a, _, rfl, SqT.of e1, rfl, _, _, rfl, _, _, rfl, _, _, rfl, _, _, rfl, rfl, ?_⟩
    refine ⟨_, rfl, _, _, rfl, rfl, _, .int m.h, _, rfl, .int _, _, rfl, iteFb ?_ ?_⟩
    · show (!(decide (0 ≤ (m.h : Int)) && decide ((m.h : Int) < 12 + 1))) = false
      rw [decide_eq_true (by omega), decide_eq_true (by omega)]
      rfl
    refine ⟨_, rfl, _, _, "tuple", rfl, by decide, .tup e2 (DvAll.nats _), _, rfl, iteFb rfl ?_⟩
    refine ⟨_, rfl, c, _, rfl, .inr (SqT.of e2), _, _, rfl, rfl, _, rfl, iteFb (decide_eq_false (by rw [List.length_map]; omega)) ?_⟩
    refine ⟨_, rfl, c, rfl, ⟨_, SqT.of e2⟩, for_tup (K := K) (a := c) (xs := m.ts.map vInt) (fun i σ H' => H' = H ∧
      ∃ v, σ = [some (.ref a), some (vInt m.h), some (.ref c), some (vInt m.st), some (.ref d), v, none, none]) ⟨rfl, _, rfl⟩ ?_ ?_ ?_⟩
    · rintro i σ H' hi ⟨rfl, _⟩
      exact SqT.of e2
    · rintro i x σ H' hx ⟨rfl, v, rfl⟩
      rw [List.getElem?_map] at hx
      cases hk : m.ts[i]? with
      | none => rw [hk] at hx; cases hx
      | some k =>
        rw [hk] at hx
        cases hx
        have := ok.ts k (List.mem_of_getElem? hk)
        refine ⟨_, rfl, _, _, rfl, rfl, _, .int k, _, rfl, .int _, _, rfl, iteFb ?_ ?_⟩
        · show (!(decide (0 ≤ (k : Int)) && decide ((k : Int) < 6 + 1))) = false
          rw [decide_eq_true (by omega), decide_eq_true (by omega)]
          rfl
        · exact ⟨rfl, _, rfl⟩
    rintro σ H' ⟨rfl, v, rfl⟩
    refine ⟨_, rfl, _, _, rfl, .int _, _, rfl, iteFb rfl ?_⟩
    refine ⟨_, rfl, _, _, rfl, rfl, _, rfl, iteTb (decide_eq_true (by omega)) ⟨_, _, rfl, rfl, _, rfl, iteFb ?_ ?_⟩⟩
    · rw [decide_eq_true (by omega)]
      rfl
    refine ⟨_, rfl, _, _, "tuple", rfl, by decide, .tup e3 q3, _, rfl, iteFb rfl ?_⟩
    refine ⟨_, rfl, d, _, rfl, .inr (SqT.of e3), _, _, rfl, rfl, _, rfl, iteFb (decide_eq_false (by omega)) ?_⟩
    intro f hfn
    have ndf : d ≠ f := ne_of_none e3 hfn
    have nd1 : (upd H' f (.dK [])) d = some (.tup ys) := (upd_ne ndf).trans e3
    refine ⟨_, rfl, d, rfl, ⟨_, SqT.of nd1⟩, for_tup (K := K) (a := d) (xs := ys) (fun i σ H2 => Kx f (upd H' f (.dK [])) H2 ∧ H2 f = some (.dK (nmKv ((m.rs.take i).foldl (fun zs r => nmAdds zs r.cs) []))) ∧
      ∃ w, σ = [some (.ref a), some (vInt m.h), some (.ref c), some (vInt m.st), some (.ref d), v, some (.ref f), w]) ⟨.refl, upd_same, _, rfl⟩ ?_ ?_ ?_⟩
    · rintro i σ H2 hi ⟨k1, _⟩
      exact SqT.of (k1 _ _ ndf nd1)
    · rintro i x σ H2 hx ⟨k1, hf', v, rfl⟩
      obtain ⟨r, hr1, rr⟩ := q3.gets hx
      have tp := (Same.tupS (same_upd (o := .dK []) hfn)).trans (k1.tups upd_same (by intro ys z; cases z))
      refine ⟨_, rfl, _, rfl, _, rfl, _, rfl, _, rfl, x, r, m.h, m.st, _, f, _, rfl, rr.monoT tp (noL_rule r), ok.rs r (List.mem_of_getElem? hr1), nmOf_nodup List.nodup_nil, hf', fun H3 k2 hf2 => ?_⟩
      refine ⟨k1.trans k2, ?_, _, rfl⟩
      rw [hf2, foldl_take hr1]
    · rintro σ H2 ⟨k1, hf1, v, rfl⟩
      rw [l3, List.take_length] at hf1
      refine ⟨_, rfl, q _ f (fun b o e => k1 _ _ (ne_of_none e hfn) (same_upd hfn _ _ e)) hfn hf1⟩
end K54
set_option Elab.async false
set_option linter.all false
set_option maxRecDepth 100000
set_option maxHeartbeats 4000000
set_option pp.maxSteps 800
namespace K54
open PySem PySem.Spec PyProof.Rows L2
variable {P : Program} {w : World} {K : PySem.W.Frag} {mg : Str → Option Value} {base : Heap}
def arS (y : Str) : Nat := if y = "e" then 2 else if y = "p" then 1 else 0
theorem arS_s (z : Nm) : arS z.s = z.ar := by
  cases z <;> decide +kernel
def symS (y : Str) : PyData := .tuple [.str y, dInt (arS y)]
theorem nmKv_keys (zs : List Nm) : (nmKv zs).map (·.1) = (zs.map Nm.s).map Sum.inr := by
  unfold nmKv
  rw [List.map_map, List.map_map]
  rfl
def spSyms : Sp := fun vs H Q _ => ∃ (x : V) (m : Mach), vs = [x] ∧ Dv H x (machD m) ∧ MachOk m ∧ ∀ H' l (ys : List Str), Same H H' → Dv H' (.ref l) (.list (ys.map symS)) → ys.Perm ((nmOf m).map Nm.s) → Q (.ref l) H'
theorem sc_machine_symbols : FnScope ["machine", "found", "name"] ["machine"] (defScope s_machine_symbols) := ⟨rfl, rfl, rfl, by decide +kernel, rfl, by decide +kernel, by decide +kernel⟩
theorem d_machine_symbols (T : Txt w K mg) : Def P w K mg base CX0 8 ("machine_symbols", none) ["machine"] (spSyms) := by
  refine Def.of0 (k := 7) T.f_machine_symbols sc_machine_symbols (fun _ _ _ _ _ _ us hl => match us, hl with | [_], _ => rfl) (fun vs H Q E h => ?_) (fun cdv A outer s H vs Q E hr h => ?_)
  · obtain ⟨x, m, rfl, _⟩ := h
    rfl
  · obtain ⟨x, m, rfl, hm, ok, q⟩ := h
    refine ⟨_, ((pss_cons (ps_set (i := 1) sc_machine_symbols.nd rfl (Or.inr rfl) (pe_f (d_looked_at T) (hr.mono (by decide)) T.g_looked_at pass0 (pa_cons (pv 0) pa_nil)))
       (pss_one (ps_ret (pe_lc (own := [("name", 2)]) (g := (gName 2)) (by rfl) sc_machine_symbols.nd (pi_list (pe_b (call_sortedD rfl) T.b_sorted (pa_cons (pv 1) pa_nil))) (blkOk_by (own := [("name", 2)]) (N := ["machine", "found", "name"]) (sc := defScope s_machine_symbols) (by decide +kernel)) (fun _ _ _ _ _ => (pg_name (i := 2) sc_machine_symbols.nd rfl (Or.inl rfl) (Or.inr rfl))) (fun _ _ _ _ _ => pts_nil) (fun _ _ _ _ _ => (pe_tup (pa_cons (pv 2) (pa_cons (pe_dget (hu_of hr) (pv 1) (pv 2) (fun _ _ => rfl)) pa_nil))))))))), ?_⟩
    refine ⟨_, rfl, x, m, rfl, hm, ok, fun H1 f s1 nf hf => ?_⟩
    have nd : (nmOf m).Nodup := nmOf_nodup List.nodup_nil
    refine ⟨_, rfl, f, _, _, rfl, .inl hf, nmKv_keys _, ?_, fun ys p hp _ np => ?_⟩
    · rw [List.length_map]
      have := nm_few nd
      omega
    have nfp : f ≠ p := ne_of_none hf np
    refine ⟨p, rfl, ⟨_, SqL.of upd_same⟩, fun D nD => lc_list (K := K) (a := p) (xs := ys.map V.str) (fun i H2 => ∃ vs, Same H1 H2 ∧ H2 p = some (.lst (ys.map V.str)) ∧ H2 D = some (.lst vs) ∧ DvAll H2 vs ((ys.take i).map symS) ∧ D ≠ p ∧ H1 D = none) ?_ ?_ ?_ ?_⟩
    · have nDp : D ≠ p := fun z => by rw [z, upd_same] at nD; cases nD
      rw [upd_ne nDp] at nD
      exact ⟨[], fun b o e => by rw [upd_ne (ne_of_none e nD), upd_ne (ne_of_none e np)]; exact e, (upd_ne (Ne.symm nDp)).trans upd_same, upd_same, .nil, nDp, nD⟩
    · rintro i H2 hi ⟨vs, s2, e2, _⟩
      exact SqL.of e2
    · rintro i x H2 hx ⟨vs, s2, e2, eD, rv, nDp, nD1⟩
      rw [List.getElem?_map] at hx
      cases hk : ys[i]? with
      | none => rw [hk] at hx; cases hx
      | some y =>
        rw [hk] at hx
        cases hx
        have hy : y ∈ (nmOf m).map Nm.s := hp.subset (List.mem_of_getElem? hk)
        obtain ⟨z, hz, rfl⟩ := List.mem_map.mp hy
        have lv : vs.length ≤ 3 := by
          have h1 := rv.len
          rw [List.length_map, List.length_take] at h1
          have h2 := hp.length_eq
          rw [List.length_map] at h2
          have := nm_few nd
          omega
        have hf2 := s2 _ _ hf
        refine ⟨rfl, _, rfl, _, rfl, _, rfl, f, .int z.ar, rfl, ?_, ?_⟩
        · have e := DGet.k (k := Sum.inr z.s) hf2
          rw [nmKv_val, if_pos hz] at e
          exact e
        refine ⟨by show 2 ≤ sizeLine; decide, fun t nt => ⟨vs, ?_, by rw [sizeLine_eq]; omega, vs ++ [.ref t], ?_, ?_, upd_same, ?_, nDp, nD1⟩⟩
        · rw [upd_ne (ne_of_none eD nt)]
          exact eD
        · intro b o e
          rw [upd_ne (ne_of_none e nD1), upd_ne (ne_of_none (s2 _ _ e) nt)]
          exact s2 _ _ e
        · rw [upd_ne (Ne.symm nDp), upd_ne (ne_of_none e2 nt)]
          exact e2
        · rw [List.take_add_one, hk, List.map_append]
          have k1 : TupS H2 (upd (upd H2 t (.tup [.str z.s, .int z.ar])) D (.lst (vs ++ [.ref t]))) := (Same.tupS (same_upd nt)).trans (tupS_upd (fun ys e => by
            rw [upd_ne (ne_of_none eD nt), eD] at e
            cases e))
          refine (rv.monoT k1 (noL_all (fun y => rfl) _)).append (.cons (.tup (xs := [.str z.s, .int z.ar]) ?_ ?_) .nil)
          · rw [upd_ne (ne_of_none eD nt).symm]
            exact upd_same
          · rw [arS_s]
            exact .cons (.str _) (.cons (.int _) .nil)
    · rintro H2 ⟨vs, s2, e2, eD, rv, nDp, nD1⟩
      rw [List.length_map, List.take_length] at rv
      exact q _ D ys (Same.tr s1 s2) (.lst eD rv) hp
end K54
set_option Elab.async false
set_option linter.all false
set_option maxRecDepth 100000
set_option maxHeartbeats 4000000
set_option pp.maxSteps 800
namespace K54
open PySem PySem.Spec PyProof.Rows L2
variable {P : Program} {w : World} {K : PySem.W.Frag} {mg : Str → Option Value} {base : Heap}
def symR (r : Rl) : PyData := .tuple [.str r.z.s, dInt r.ar]
def spStSyms (K : PySem.W.Frag) : Sp := fun vs H Q _ => ∃ (p : Addr) (n : Nat) (rels : List Rl), vs = [.ref p] ∧ StrAt K H p n rels ∧ rels.length ≤ 6 ∧ ∀ H' l, Same H H' → Dv H' (.ref l) (.list (rels.map symR)) → Q (.ref l) H'
theorem sc_Structure_symbols : FnScope ["self", "name", "arity", "_"] ["self"] (defScope s_Structure_symbols) := ⟨rfl, rfl, rfl, by decide +kernel, rfl, by decide +kernel, by decide +kernel⟩
theorem d_Structure_symbols (T : Txt w K mg) : Def P w K mg base CX0 1 ("Structure", some "symbols") ["self"] (spStSyms K) := by
  refine Def.of0 (k := 0) T.f_Structure_symbols sc_Structure_symbols (fun _ _ _ _ _ _ us hl => match us, hl with | [_], _ => rfl) (fun vs H Q E h => ?_) (fun cdv A outer s H vs Q E hr h => ?_)
  · obtain ⟨p, n, rels, rfl, _⟩ := h
    rfl
  · obtain ⟨p, n, rels, rfl, hs, h6, q⟩ := h
    refine ⟨_, ((pss_one (ps_ret (pe_lc (own := [("name", 1), ("arity", 2), ("_", 3)]) (g := (gTup K 3 (gCons (gName 1) (gCons (gName 2) (gCons (gName 3) gNil))))) (by rfl) sc_Structure_symbols.nd (pi_list (pe_fld (pv 0) rfl)) (blkOk_by (own := [("name", 1), ("arity", 2), ("_", 3)]) (N := ["self", "name", "arity", "_"]) (sc := defScope s_Structure_symbols) (by decide +kernel)) (fun _ _ _ _ _ => (pg_tup rfl (pgs_cons (pg_name (i := 1) sc_Structure_symbols.nd rfl (Or.inl rfl) (Or.inr rfl)) (pgs_cons (pg_name (i := 2) sc_Structure_symbols.nd rfl (Or.inl rfl) (Or.inr rfl)) (pgs_cons (pg_name (i := 3) sc_Structure_symbols.nd rfl (Or.inl rfl) (Or.inr rfl)) pgs_nil))))) (fun _ _ _ _ _ => pts_nil) (fun _ _ _ _ _ => (pe_tup (pa_cons (pv 1) (pa_cons (pv 2) pa_nil)))))))), ?_⟩
    obtain ⟨dx, l, vs, e1, e2, r⟩ := hs
    have hl := paired_len r
    refine ⟨_, rfl, p, _, dx, _, _, rfl, e1, T.c_Structure, T.n_Structure_relations, strF_rels _ _, l, rfl, ⟨_, SqL.of e2⟩, fun D nD => lc_list (K := K) (a := l) (xs := vs) (fun i H2 => Acc H H2 D ((rels.take i).map symR)) (.start nD) ?_ ?_ ?_⟩
    · intro i H2 hi a
      exact SqL.of (a.same _ _ e2)
    · intro i x H2 hx a
      obtain ⟨rl, hrl, ta, tb, tas, rfl, et, etb, _⟩ := paired_get r hx
      have et2 := a.tup et
      refine ⟨ta, _, rfl, SqT.of et2, rfl, _, _, rfl, _, _, rfl, _, _, rfl, rfl, ?_⟩
      refine ⟨rfl, _, rfl, _, rfl, by show 2 ≤ sizeLine; decide, fun t nt => ?_⟩
      have a2 := a.grow (same_upd (o := .tup [.str rl.z.s, vInt rl.ar]) nt)
      obtain ⟨ws, ew, lw, a3⟩ := a2.push (v := .ref t) (d := symR rl) (.tup upd_same (.cons (.str _) (.cons (.int _) .nil))) rfl
      rw [List.length_map, List.length_take] at lw
      refine ⟨ws, ew, by rw [sizeLine_eq]; omega, ?_⟩
      rw [List.take_add_one, hrl, List.map_append]
      exact a3
    · intro H2 a
      rw [hl, List.take_length] at a
      exact q _ D a.same a.dv
def fits (m : Mach) (rels : List Rl) : Bool := (nmOf m).all fun z => rels.any fun r => decide (r.z = z) && decide (r.ar = z.ar)
def spChSyms (K : PySem.W.Frag) : Sp := fun vs H Q E => ∃ (x : V) (m : Mach) (p : Addr) (n : Nat) (rels : List Rl), vs = [x, .ref p] ∧ Dv H x (machD m) ∧ MachOk m ∧ StrAt K H p n rels ∧ rels.length ≤ 6 ∧
  ∀ H', Same H H' → (fits m rels = true → Q .non H') ∧ (fits m rels = false → E (.ref (He.ga K "NotFitting")) none H')
theorem sc_check_symbols : FnScope ["machine", "structure", "known", "symbol"] ["machine", "structure"] (defScope s_check_symbols) := ⟨rfl, rfl, rfl, by decide +kernel, rfl, by decide +kernel, by decide +kernel⟩
theorem d_check_symbols (T : Txt w K mg) : Def P w K mg base (L2.CX P w) 9 ("check_symbols", none) ["machine", "structure"] (spChSyms K) := by
  refine Def.of (k := 8) T.f_check_symbols sc_check_symbols (fun _ _ _ _ _ _ us hl => match us, hl with | [_, _], _ => rfl) (fun vs H Q E h => ?_) (fun cdv A outer s H vs Q E hr h => ?_)
  · obtain ⟨x, m, p, n, rels, rfl, _⟩ := h
    rfl
  · obtain ⟨x, m, p, n, rels, rfl, hm, ok, hs, h6, q⟩ := h
    refine ⟨_, ((pss_cons (ps_set (i := 2) sc_check_symbols.nd rfl (Or.inl rfl) (pe_om0 (d_Structure_symbols T) (hr.mono (by decide)) T.c_Structure T.m_Structure_symbols pass0 (pv 1)))
       (pss_one (ps_for (L2.passes_of rfl) rfl (pi_list (pe_f (d_machine_symbols T) (hr.mono (by decide)) T.g_machine_symbols pass0 (pa_cons (pv 0) pa_nil))) (pg_name (i := 3) sc_check_symbols.nd rfl (Or.inl rfl))
       (pss_one (ps_if (pt_cmpR (op_notInD (room65 hr)) (pv 3) (pv 2) rfl)
       (pss_one (ps_raise rfl (takes_of rfl rfl rfl rfl) (pmk_own PySem.F.excBase_ValueError T.x_NotFitting.1 T.g_NotFitting T.x_NotFitting.2.1 (raises_own T.x_NotFitting.2.2.1 T.x_NotFitting.2.2.2) rfl)))
       pss_nil)))))), ?_⟩
    have layS : ∀ z : Nm, LayN 1 (symS z.s) := fun z => .tuple (by
      intro d hd
      simp only [List.mem_cons, List.not_mem_nil, or_false] at hd
      rcases hd with rfl | rfl
      · exact .nm z
      · exact .int _)
    have layR : ∀ r : Rl, LayN 1 (symR r) := fun r => .tuple (by
      intro d hd
      simp only [List.mem_cons, List.not_mem_nil, or_false] at hd
      rcases hd with rfl | rfl
      · exact .nm r.z
      · exact .int _)
    have eqS : ∀ (z : Nm) (r : Rl), PyData.eqv (symR r) (symS z.s) = (decide (r.z = z) && decide (r.ar = z.ar)) := fun z r => by
      show ((r.z.s == z.s) && (((r.ar : Int) == ((arS z.s : Nat) : Int)) && true)) = _
      rw [arS_s, Bool.and_true, Bool.eq_iff_iff]
      simp only [Bool.and_eq_true, beq_iff_eq, decide_eq_true_eq]
      constructor
      · rintro ⟨h1, h2⟩
        exact ⟨nm_inj h1, by omega⟩
      · rintro ⟨h1, h2⟩
        exact ⟨by rw [h1], by omega⟩
    refine ⟨_, rfl, p, _, _, rfl, hs.choose_spec.choose_spec.choose_spec.1, strF_symbols _ _, p, n, rels, rfl, hs, h6, fun H1 l s1 hl => ?_⟩
    refine ⟨_, rfl, x, m, rfl, hm.mono s1, ok, fun H2 l2 ys s2 hl2 hp => ?_⟩
    obtain ⟨_, vs, e, e2, rv⟩ := hl2.lst_inv
    cases e
    have q := q H2 (Same.tr s1 s2)
    have hyz : ∀ i y, ys[i]? = some y → ∃ z ∈ nmOf m, y = z.s := fun i y e => by
      have hy : y ∈ (nmOf m).map Nm.s := hp.subset (List.mem_of_getElem? e)
      obtain ⟨z, hz, ez⟩ := List.mem_map.mp hy
      exact ⟨z, hz, ez.symm⟩
    let ok1 := fun y : Str => rels.any fun r => decide (r.z.s = y) && decide (r.ar = arS y)
    have okz : ∀ z : Nm, ok1 z.s = rels.any fun r => decide (r.z = z) && decide (r.ar = z.ar) := fun z => by
      show (rels.any fun r => decide (r.z.s = z.s) && decide (r.ar = arS z.s)) = _
      congr 1
      funext r
      rw [arS_s]
      congr 1
      exact decide_eq_decide.mpr ⟨nm_inj, fun e => by rw [e]⟩
    refine ⟨l2, rfl, ⟨_, SqL.of e2⟩, for_list (K := K) (a := l2) (xs := vs) (fun i σ H' => H' = H2 ∧ (∃ v, σ = [some x, some (.ref p), some (.ref l), v]) ∧ (ys.take i).all ok1 = true) ⟨rfl, ⟨_, rfl⟩, rfl⟩ ?_ ?_ ?_⟩
    · rintro i σ H' hi ⟨rfl, _⟩
      exact SqL.of e2
    · rintro i y σ H' hx ⟨rfl, ⟨v, rfl⟩, ha⟩
      obtain ⟨yy, hyy, ry⟩ := rv.gets hx
      obtain ⟨z, hz, rfl⟩ := hyz i yy hyy
      refine ⟨_, rfl, _, rfl, symS z.s, rels.map symR, ry.dp, (hl.mono s2).dp, (layS z).shaped (by decide), LayN.shaped (n := 2) (.list (by
        intro d hd
        obtain ⟨r, _, rfl⟩ := List.mem_map.mp hd
        exact layR r)) (by decide), _, rfl, ?_⟩
      have e3 : ((rels.map symR).any fun d => PyData.eqv d (symS z.s)) = ok1 z.s := by
        rw [List.any_map, okz]
        congr 1
        funext r
        exact eqS z r
      rw [e3]
      cases hb : ok1 z.s with
      | true =>
        refine iteFb rfl ⟨rfl, ⟨_, rfl⟩, ?_⟩
        rw [all_take ha hyy]
        exact hb
      | false =>
        refine iteTb rfl (q.2 ?_)
        unfold fits
        rw [List.all_eq_false]
        exact ⟨z, hz, by rw [← okz, hb]; exact Bool.false_ne_true⟩
    · rintro σ H' ⟨rfl, ⟨v, rfl⟩, ha⟩
      have hl3 := rv.len
      rw [List.length_map] at hl3
      rw [hl3, List.take_length, List.all_eq_true] at ha
      refine q.1 ?_
      unfold fits
      rw [List.all_eq_true]
      intro z hz
      rw [← okz]
      exact ha _ (hp.symm.subset (List.mem_map.mpr ⟨z, hz, rfl⟩))
end K54
set_option Elab.async false
set_option linter.all false
set_option maxRecDepth 100000
set_option maxHeartbeats 4000000
set_option pp.maxSteps 800
namespace K54
open PySem PySem.Spec PyProof.Rows L2
variable {P : Program} {w : World} {K : PySem.W.Frag} {mg : Str → Option Value} {base : Heap}
theorem refsOf_dv {H : Hp} {ks : List NestedKey} {as : List Addr} (r : RefsOf H ks as) : DvAll H (as.map V.ref) (ks.map NestedKey.data) := by
  induction r with
  | nil => exact .nil
  | cons z t ih => exact .cons z.dv ih
theorem keys_rows {ks : List NestedKey} (h : ∀ k ∈ ks, ∃ r : List Int, k = rowK r) : ∃ rs : List (List Int), ks = rs.map rowK := by
  induction ks with
  | nil => exact ⟨[], rfl⟩
  | cons k ks ih =>
    obtain ⟨r, hr⟩ := h k (by simp)
    obtain ⟨rs, hrs⟩ := ih fun x hx => h x (List.mem_cons_of_mem _ hx)
    exact ⟨r :: rs, by rw [hr, hrs, List.map_cons]⟩
theorem row_ok {k : List Int} {ar n : Nat} (h1 : k.length = ar) (h2 : ∀ v ∈ k, 0 ≤ v ∧ v < n) : isRow (.tuple (k.map .int)) n ar = true := by
  show (decide ((k.map PyData.int).length = ar) && (k.map PyData.int).all fun x => isBelow x n) = true
  rw [List.length_map, decide_eq_true h1, Bool.true_and, List.all_map, List.all_eq_true]
  intro v hv
  have := h2 v hv
  show (decide (0 ≤ v) && decide (v < n)) = true
  rw [decide_eq_true this.1, decide_eq_true this.2]
  rfl
structure RawOk (n : Nat) (r : Rl) : Prop where
  ar : r.ar ≤ 2
  few : r.ks.length < 64
  row : ∀ k ∈ r.ks, k.length = r.ar ∧ ∀ v ∈ k, 0 ≤ v ∧ v < (n : Int)
def RawT (H : Hp) (v : V) (r : Rl) : Prop := ∃ a b as, v = .ref a ∧ H a = some (.tup [.str r.z.s, vInt r.ar, .ref b]) ∧ H b = some (.lst (as.map V.ref)) ∧ RefsOf H (r.ks.map rowK) as
theorem RawT.mono {H H' : Hp} (s : Same H H') {v : V} {r : Rl} (h : RawT H v r) : RawT H' v r :=
  let ⟨a, b, as, e, e1, e2, q⟩ := h
  ⟨a, b, as, e, s _ _ e1, s _ _ e2, refsOf_mono (Same.tupS s) q⟩
def SameRl (r r' : Rl) : Prop := r'.z = r.z ∧ r'.ar = r.ar ∧ (∀ k, k ∈ r'.ks ↔ k ∈ r.ks) ∧ r'.ks.length < 64
def spChecked : Sp := fun vs H Q _ => ∃ (n : Nat) (v : V) (r : Rl), vs = [vInt n, v] ∧ RawT H v r ∧ RawOk n r ∧ 1 ≤ n ∧ n ≤ 16 ∧ ∀ H' v' r', Same H H' → RlT H' v' r' → SameRl r r' → Q v' H'
theorem sc_checked : FnScope ["size", "relation", "name", "arity", "rows", "row"] ["size", "relation"] (defScope s_checked) := ⟨rfl, rfl, rfl, by decide +kernel, rfl, by decide +kernel, by decide +kernel⟩
theorem d_checked (T : Txt w K mg) : Def P w K mg base CX0 4 ("checked", none) ["size", "relation"] (spChecked) := by
  refine Def.of0 (k := 3) T.f_checked sc_checked (fun _ _ _ _ _ _ us hl => match us, hl with | [_, _], _ => rfl) (fun vs H Q E h => ?_) (fun cdv A outer s H vs Q E hr h => ?_)
  · obtain ⟨n, v, r, rfl, _⟩ := h
    rfl
  · obtain ⟨n, v, r, rfl, ⟨a, l, as, rfl, e1, e2, rk⟩, ok, n1, n16, q⟩ := h
    refine ⟨_, ((pss_cons (ps_if (PW.pt (pw_or (pt_not (pt_val (pe_b call_isD T.b_isinstance (pa_cons (pv 1) (pa_cons (pe_tyv (T := "tuple") T.b_tuple) pa_nil))))) (pw_or1 (pt_cmpR op_ne (pe_b call_len_seq T.b_len (pa_cons (pv 1) pa_nil)) pe_int (nomark _)))))
       (pss_one ps_never)
       pss_nil)
       (pss_cons (ps_asg (pv 1) (pg_tup rfl (pgs_cons (pg_name (i := 2) sc_checked.nd rfl (Or.inl rfl)) (pgs_cons (pg_name (i := 3) sc_checked.nd rfl (Or.inl rfl)) (pgs_cons (pg_name (i := 4) sc_checked.nd rfl (Or.inl rfl)) pgs_nil)))))
       (pss_cons (ps_if (PW.pt (pw_or (pt_not (pt_val (pe_f (d_is_name T) (hr.mono (by decide)) T.g_is_name pass0 (pa_cons (pv 2) pa_nil)))) (pw_or1 (pt_not (pt_val (pe_f (d_is_below T) (hr.mono (by decide)) T.g_is_below pass0 (pa_cons (pv 3) (pa_cons (pe_op op_add (pe_gi T.i_PLACES) pe_int) pa_nil))))))))
       (pss_one ps_never)
       pss_nil)
       (pss_cons (ps_if (pt_cmpR op_gt (pe_f (d_power T) (hr.mono (by decide)) T.g_power pass0 (pa_cons (pv 0) (pa_cons (pv 3) pa_nil))) (pe_gi T.i_TUPLES) (nomark _))
       (pss_one ps_never)
       pss_nil)
       (pss_cons (ps_if (pt_not (pt_val (pe_b call_isiT T.b_isinstance (pa_cons (pv 4) (pa_cons (pe_tup (pa_cons (pe_tyv (T := "list") T.b_list) (pa_cons (pe_tyv (T := "tuple") T.b_tuple) pa_nil))) pa_nil)))))
       (pss_one ps_never)
       pss_nil)
       (pss_cons (ps_for PassesOwn.never rfl (pi_list (pv 4)) (pg_name (i := 5) sc_checked.nd rfl (Or.inl rfl))
       (pss_one (ps_if (pt_not (pt_val (pe_f (d_is_row T) (hr.mono (by decide)) T.g_is_row pass0 (pa_cons (pv 5) (pa_cons (pv 0) (pa_cons (pv 3) pa_nil))))))
       (pss_one ps_never)
       pss_nil)))
       (pss_one (ps_ret (pe_tup (pa_cons (pv 2) (pa_cons (pv 3) (pa_cons (pe_ty call_tuple_of T.b_tuple (pa_cons (pe_b (cr_sortedSN rfl hr.units) T.b_sorted (pa_cons (pe_ty (cr_setOfN rfl hr.units) T.b_set (pa_cons (pv 4) pa_nil)) pa_nil)) pa_nil)) pa_nil))))))))))))), ?_⟩
    have hv : Dv H (.ref a) (.tuple [.str r.z.s, dInt r.ar, .list ((r.ks.map rowK).map NestedKey.data)]) := .tup e1 (.cons (.str _) (.cons (.int _) (.cons (.lst e2 (refsOf_dv rk)) .nil)))
    have har := ok.ar
    refine ⟨_, rfl, _, _, "tuple", rfl, by decide, hv, _, rfl, ?_⟩
    refine iteF ⟨_, rfl, a, _, rfl, .inr (SqT.of e1), rfl, _, rfl, iteFb (by rw [dec_int]; rfl) ?_⟩
    refine ⟨_, rfl, a, _, rfl, SqT.of e1, rfl, _, _, rfl, _, _, rfl, _, _, rfl, rfl, ?_⟩
    refine ⟨_, rfl, r.z, rfl, _, rfl, iteFb rfl ?_⟩
    refine ⟨_, rfl, _, _, rfl, rfl, _, .int r.ar, _, rfl, .int _, _, rfl, iteFb ?_ ?_⟩
    · show (!(decide (0 ≤ (r.ar : Int)) && decide ((r.ar : Int) < 6 + 1))) = false
      rw [decide_eq_true (by omega), decide_eq_true (by omega)]
      rfl
    have pw : ((n : Int) ^ r.ar) ≤ 4096 := by
      have : r.ar = 0 ∨ r.ar = 1 ∨ r.ar = 2 := by omega
      rcases this with h | h | h <;> rw [h]
      · rw [Int.pow_zero]; omega
      · rw [Int.pow_succ, Int.pow_zero]; omega
      · rw [Int.pow_succ, Int.pow_succ, Int.pow_zero, Int.one_mul]
        have : (n : Int) * n ≤ 16 * 16 := Int.mul_le_mul (by omega) (by omega) (by omega) (by omega)
        omega
    refine ⟨_, rfl, _, rfl, n, r.ar, rfl, by omega, by omega, by omega, _, _, rfl, rfl, _, rfl, iteFb (decide_eq_false (by omega)) ?_⟩
    refine ⟨_, rfl, by show 2 ≤ sizeLine; decide, fun t nt => ?_⟩
    have e1' := same_upd (o := .tup [.ty "list", .ty "tuple"]) nt _ _ e1
    have e2' := same_upd (o := .tup [.ty "list", .ty "tuple"]) nt _ _ e2
    have rk' := refsOf_mono (Same.tupS (same_upd (o := .tup [.ty "list", .ty "tuple"]) nt)) rk
    have s1 := same_upd (o := .tup [.ty "list", .ty "tuple"]) nt
    have et := upd_same (H := H) (a := t) (o := .tup [.ty "list", .ty "tuple"])
    generalize upd H t (.tup [.ty "list", .ty "tuple"]) = H1 at e1' e2' rk' s1 et ⊢
    refine ⟨_, t, [.ty "list", .ty "tuple"], _, [.type "list", .type "tuple"], true, rfl, et, .cons (.ty _) (.cons (.ty _) .nil), .base (.lst e2'), kitAny_cons (b := true) (kit_ty (by decide +kernel)) (fun z => nomatch z) (fun _ => rfl), _, rfl, iteFb rfl ?_⟩
    refine ⟨_, rfl, l, rfl, ⟨_, SqL.of e2'⟩, for_list (K := K) (a := l) (xs := as.map V.ref) (fun i σ H' => H' = H1 ∧ ∃ v, σ = [some (vInt n), some (.ref a), some (.str r.z.s), some (vInt r.ar), some (.ref l), v]) ⟨rfl, _, rfl⟩ ?_ ?_ ?_⟩
    · rintro i σ H' hi ⟨rfl, _⟩
      exact SqL.of e2'
    · rintro i x σ H' hx ⟨rfl, v, rfl⟩
      obtain ⟨d, hd, rd⟩ := (refsOf_dv rk').at hx
      rw [List.map_map, List.getElem?_map] at hd
      cases hk : r.ks[i]? with
      | none => rw [hk] at hd; cases hd
      | some k =>
        rw [hk] at hd
        have hd : some ((rowK k).data) = some d := hd
        rw [rowK_data] at hd
        cases hd
        have hrow := ok.row k (List.mem_of_getElem? hk)
        refine ⟨_, rfl, _, rfl, _, rfl, x, _, n, r.ar, rfl, rd, _, rfl, iteFb ?_ ⟨rfl, _, rfl⟩⟩
        rw [row_ok hrow.1 hrow.2]
        rfl
    · rintro σ H' ⟨rfl, v, rfl⟩
      refine ⟨_, rfl, _, rfl, _, rfl, l, as, r.ks.map rowK, rfl, SqL.of e2', rk', ?_, by rw [List.length_map]; exact ok.few, fun a1 n1 ks1 h1 nd1 mem1 hn1 => ?_⟩
      · intro k hk
        obtain ⟨x, _, rfl⟩ := List.mem_map.mp hk
        exact rowK_depth x
      obtain ⟨rs, rfl⟩ := keys_rows (ks := ks1) fun k hk => by
        obtain ⟨x, _, hx⟩ := List.mem_map.mp ((mem1 k).mp hk)
        exact ⟨x, hx.symm⟩
      have memr : ∀ k, k ∈ rs ↔ k ∈ r.ks := fun k => by
        have := mem1 (rowK k)
        constructor
        · intro h
          obtain ⟨y, hy, e⟩ := List.mem_map.mp (this.mp (List.mem_map.mpr ⟨k, h, rfl⟩))
          rw [rowK_inj e] at hy
          exact hy
        · intro h
          obtain ⟨y, hy, e⟩ := List.mem_map.mp (this.mpr (List.mem_map.mpr ⟨k, h, rfl⟩))
          rw [rowK_inj e] at hy
          exact hy
      have ndr : rs.Nodup := by
        refine (List.pairwise_map.mp nd1).imp fun {a b} h e => h (by rw [e])
      refine ⟨a1, rs.map rowK, rfl, hn1, keysOk_rows (n := r.ar) (fun k hk => (ok.row k ((memr k).mp hk)).1) ndr, fun p as2 ks2 hp2 np rk2 => ?_⟩
      have s3 : Same H' (upd (upd H' a1 n1) p (.lst (as2.map V.ref))) := Same.tr (same_upd h1) (same_upd np)
      refine ⟨p, _, rfl, .inl ⟨SqL.of upd_same, fun t2 nt2 => ?_⟩⟩
      refine ⟨by show 3 ≤ sizeLine; decide, fun t3 nt3 => ?_⟩
      obtain ⟨rs2, e5⟩ := keys_rows (ks := ks2.mergeSort keyLe) fun k hk => by
        have hk := hp2.subset (List.mem_mergeSort.mp hk)
        obtain ⟨x, _, hx⟩ := List.mem_map.mp hk
        exact ⟨x, hx.symm⟩
      rw [e5] at rk2
      have s4 := Same.tr (same_upd (o := .tup (as2.map V.ref)) nt2) (same_upd (o := .tup [.str r.z.s, vInt r.ar, .ref t2]) nt3)
      have nt23 : t2 ≠ t3 := fun z => by rw [← z, upd_same] at nt3; cases nt3
      refine q _ _ ⟨r.z, r.ar, rs2⟩ (Same.tr s1 (Same.tr s3 s4)) ⟨t3, t2, as2, rfl, upd_same, ?_, ?_⟩ ⟨rfl, rfl, fun k => ?_, ?_⟩
      · rw [upd_ne nt23]
        exact upd_same
      · have tt : TupS (upd H' a1 n1) (upd (upd H' a1 n1) p (.lst (as2.map V.ref))) := Same.tupS (same_upd np)
        exact refsOf_mono (tt.trans (Same.tupS s4)) rk2
      · rw [← memr k]
        constructor
        · intro h
          have h6 : rowK k ∈ rs2.map rowK := List.mem_map.mpr ⟨k, h, rfl⟩
          rw [← e5] at h6
          obtain ⟨y, hy, e⟩ := List.mem_map.mp (hp2.subset (List.mem_mergeSort.mp h6))
          rw [rowK_inj e] at hy
          exact hy
        · intro h
          have h6 : rowK k ∈ ks2.mergeSort keyLe := List.mem_mergeSort.mpr (hp2.symm.subset (List.mem_map.mpr ⟨k, h, rfl⟩))
          rw [e5] at h6
          obtain ⟨y, hy, e⟩ := List.mem_map.mp h6
          rw [rowK_inj e] at hy
          exact hy
      · have h1 := congrArg List.length e5
        rw [List.length_mergeSort, List.length_map, hp2.length_eq, List.length_map] at h1
        have h2 := ndr.length_le_of_subset (fun k hk => (memr k).mp hk)
        have := ok.few
        show rs2.length < 64
        omega
end K54
set_option Elab.async false
set_option linter.all false
set_option maxRecDepth 100000
set_option maxHeartbeats 4000000
set_option pp.maxSteps 800
namespace K54
open PySem PySem.Spec PyProof.Rows L2
variable {P : Program} {w : World} {K : PySem.W.Frag} {mg : Str → Option Value} {base : Heap}
def spStInit (K : PySem.W.Frag) : Sp := fun vs H Q _ => ∃ (p dx l : Addr) (n : Nat) (rs : List V) (rels : List Rl), vs = [.ref p, vInt n, .ref l] ∧ H p = some (.ins (He.ga K "Structure") dx []) ∧ H l = some (.lst rs) ∧ Paired (RawT H) rs rels ∧
  (∀ r ∈ rels, RawOk n r) ∧ (rels.map Rl.z).Nodup ∧ rels.length ≤ 6 ∧ 1 ≤ n ∧ n ≤ 16 ∧ ∀ H' rels', Kx p H H' → StrAt K H' p n rels' → Paired SameRl rels rels' → Q .non H'
theorem paired_snoc_take {α β : Type} {F : α → β → Prop} {l1 : List α} {l2 : List β} {i : Nat} {a : α} {b : β} (h : Paired F (l1.take i) l2) (e : l1[i]? = some a) (x : F a b) : Paired F (l1.take (i + 1)) (l2 ++ [b]) := by
  rw [List.take_add_one, e]
  exact h.snoc x
theorem putF2 (n : V) (l : V) : putF "relations" l (putF "size" n []) = ([("size", n), ("relations", l)] : List (Str × V)) := by
  have e : ¬ (("size" : Str) = "relations") := by decide +kernel
  show (if ("size" : Str) = "relations" then [(("size" : Str), l)] else (("size" : Str), n) :: putF "relations" l []) = ([("size", n), ("relations", l)] : List (Str × V))
  rw [if_neg e]
  rfl
theorem nodup_map_inj {α β : Type} {f : α → β} (hf : ∀ a b, f a = f b → a = b) {l : List α} (h : l.Nodup) : (l.map f).Nodup :=
  List.pairwise_map.mpr (h.imp fun {a b} k e => k (hf a b e))
theorem sc_Structure_init : FnScope ["self", "size", "relations", "kept", "relation", "name", "_"] ["self", "size", "relations"] (defScope s_Structure_init) := ⟨rfl, rfl, rfl, by decide +kernel, rfl, by decide +kernel, by decide +kernel⟩
theorem d_Structure_init (T : Txt w K mg) : Def P w K mg base CX0 5 ("Structure", some "__init__") ["self", "size", "relations"] (spStInit K) := by
  refine Def.of0 (k := 4) T.f_Structure_init sc_Structure_init (fun _ _ _ _ _ _ us hl => match us, hl with | [_, _, _], _ => rfl) (fun vs H Q E h => ?_) (fun cdv A outer s H vs Q E hr h => ?_)
  · obtain ⟨p, dx, l, n, rs, rels, rfl, _⟩ := h
    rfl
  · obtain ⟨p, dx, l, n, rs, rels, rfl, hp, hl, pr, hok, nd, h6, n1, n16, q⟩ := h
    refine ⟨_, ((pss_cons (ps_if (PW.pt (pw_or (pt_not (pt_val (pe_f (d_is_integer T) (hr.mono (by decide)) T.g_is_integer pass0 (pa_cons (pv 1) pa_nil)))) (pw_or1 (pt_not (pt_chain op_le op_le pe_int (pv 1) (pe_gi T.i_LARGEST))))))
       (pss_one ps_never)
       pss_nil)
       (pss_cons (ps_if (PW.pt (pw_or (pt_not (pt_val (pe_b call_isi T.b_isinstance (pa_cons (pv 2) (pa_cons (pe_tyv (T := "list") T.b_list) pa_nil))))) (pw_or1 (pt_cmpR op_gt (pe_b call_len_seq T.b_len (pa_cons (pv 2) pa_nil)) (pe_gi T.i_RELATIONS) (nomark _)))))
       (pss_one ps_never)
       pss_nil)
       (pss_cons (ps_set (i := 3) sc_Structure_init.nd rfl (Or.inl rfl) (pe_lst pa_nil))
       (pss_cons (ps_for PassesOwn.never rfl (pi_list (pv 2)) (pg_name (i := 4) sc_Structure_init.nd rfl (Or.inl rfl))
       (pss_one (ps_expr (pe_bm PySem.F.plainAttrs_list PySem.F.slot_list_append PySem.F.type_list_append mt_append (pv 3) (pa_cons (pe_f (d_checked T) (hr.mono (by decide)) T.g_checked pass0 (pa_cons (pv 1) (pa_cons (pv 4) pa_nil))) pa_nil)))))
       (pss_cons (ps_if (pt_cmpR op_ne (pe_lenTexts rfl (by rfl) T.b_len (by rfl) T.b_set (pe_lc (own := [("name", 5), ("_", 6)]) (g := (gTup K 3 (gCons (gName 5) (gCons (gName 6) (gCons (gName 6) gNil))))) (by rfl) sc_Structure_init.nd (pi_list (pv 3)) (blkOk_by (own := [("name", 5), ("_", 6)]) (N := ["self", "size", "relations", "kept", "relation", "name", "_"]) (sc := defScope s_Structure_init) (by decide +kernel)) (fun _ _ _ _ _ => (pg_tup rfl (pgs_cons (pg_name (i := 5) sc_Structure_init.nd rfl (Or.inl rfl) (Or.inr rfl)) (pgs_cons (pg_name (i := 6) sc_Structure_init.nd rfl (Or.inl rfl) (Or.inr rfl)) (pgs_cons (pg_name (i := 6) sc_Structure_init.nd rfl (Or.inl rfl) (Or.inr rfl)) pgs_nil))))) (fun _ _ _ _ _ => pts_nil) (fun _ _ _ _ _ => (pv 5)))) (pe_b call_len_seq T.b_len (pa_cons (pv 3) pa_nil)) (nomark _))
       (pss_one ps_never)
       pss_nil)
       (pss_cons (ps_fld (pv 0) (pv 1) rfl)
       (pss_one (ps_fld (pv 0) (pv 3) rfl))))))))), ?_⟩
    have hlen := paired_len pr
    refine ⟨_, rfl, _, .int n, rfl, .int _, _, rfl, iteFb rfl ?_⟩
    refine ⟨_, rfl, _, _, rfl, rfl, _, rfl, iteTb (decide_eq_true (by omega)) ⟨_, _, rfl, rfl, _, rfl, iteFb ?_ ?_⟩⟩
    · rw [decide_eq_true (by omega)]
      rfl
    refine ⟨_, rfl, .ref l, .ty "list", .type "list", .type "list", true, rfl, .ty _, .base (.lst hl), kit_ty (by decide +kernel), _, rfl, iteFb rfl ?_⟩
    refine ⟨_, rfl, l, _, rfl, .inl (SqL.of hl), _, _, rfl, rfl, _, rfl, iteFb (decide_eq_false (by omega)) ?_⟩
    refine ⟨Nat.zero_le _, fun kp nk => ?_⟩
    have nlk : l ≠ kp := ne_of_none hl nk
    refine ⟨_, rfl, l, rfl, ⟨_, SqL.of ((upd_ne nlk).trans hl)⟩, for_list (K := K) (a := l) (xs := rs) (fun i σ H' => Same H H' ∧ (∃ vs rels', H' kp = some (.lst vs) ∧ Paired (RlT H') vs rels' ∧ Paired SameRl (rels.take i) rels') ∧
      ∃ v, σ = [some (.ref p), some (vInt n), some (.ref l), some (.ref kp), v, none, none]) ⟨same_upd nk, ⟨[], [], upd_same, .nil, .nil⟩, _, rfl⟩ ?_ ?_ ?_⟩
    · rintro i σ H' hi ⟨s1, _⟩
      exact SqL.of (s1 _ _ hl)
    · rintro i x σ H' hx ⟨s1, ⟨vs, rels', ek, rk, ra⟩, v, rfl⟩
      obtain ⟨r, hr1, rr⟩ := paired_get pr hx
      refine ⟨_, rfl, .inl ⟨rfl, _, SqL.of ek⟩, _, rfl, _, rfl, n, x, r, rfl, rr.mono s1, hok r (List.mem_of_getElem? hr1), n1, n16, fun H2 v2 r2 s2 t2 sr => ?_⟩
      have ek2 := s2 _ _ ek
      have lv : vs.length ≤ 6 := by
        rw [paired_len rk, ← paired_len ra, List.length_take]
        omega
      refine ⟨kp, _, _, rfl, rfl, ek2, by rw [sizeLine_eq]; omega, ?_⟩
      have tt : TupS H2 (upd H2 kp (.lst (vs ++ [v2]))) := tupS_upd (fun ys e => by rw [ek2] at e; cases e)
      refine ⟨fun b o e => ?_, ⟨vs ++ [v2], rels' ++ [r2], upd_same, (Paired.mapP rk fun _ _ z => z.mono ((Same.tupS s2).trans tt)).snoc (t2.mono tt), paired_snoc_take ra hr1 sr⟩, _, rfl⟩
      rw [upd_ne (ne_of_none e nk)]
      exact s2 _ _ (s1 _ _ e)
    · rintro σ H1 ⟨s1, ⟨vs, rels', ek, rk, ra⟩, v, rfl⟩
      rw [hlen, List.take_length] at ra
      have zz : rels'.map Rl.z = rels.map Rl.z := by
        clear q hok nd h6 pr hlen rk
        induction ra with
        | nil => rfl
        | cons z t ih => rw [List.map_cons, List.map_cons, ih, z.1]
      have l1 : vs.length = rels'.length := paired_len rk
      have l2 := paired_len ra
      refine ⟨_, rfl, kp, rfl, ⟨_, SqL.of ek⟩, fun D nD => lc_list (K := K) (a := kp) (xs := vs) (fun i H2 => Same H1 H2 ∧ H2 D = some (.lst ((rels'.take i).map fun r => V.str r.z.s))) ⟨same_upd nD, upd_same⟩ ?_ ?_ ?_⟩
      · rintro i H2 hi ⟨s2, _⟩
        exact SqL.of (s2 _ _ ek)
      · rintro i x H2 hx ⟨s2, eD⟩
        obtain ⟨r, hr1, a, b, as, rfl, e1, e2, _⟩ := paired_get rk hx
        refine ⟨a, _, rfl, SqT.of (s2 _ _ e1), rfl, _, _, rfl, _, _, rfl, _, _, rfl, rfl, rfl, _, rfl, _, eD, ?_, fun b o e => ?_, ?_⟩
        · rw [List.length_map, List.length_take, sizeLine_eq]
          omega
        · rw [upd_ne (ne_of_none e nD)]
          exact s2 _ _ e
        · rw [List.take_add_one, hr1, List.map_append]
          exact upd_same
      · rintro H2 ⟨s2, eD⟩
        rw [l1, List.take_length] at eD
        refine ⟨D, rels'.map fun r => r.z.s, rfl, SqL.of (by rw [List.map_map]; exact eD), ?_, by rw [List.length_map]; omega, _, rfl, kp, _, rfl, .inl (SqL.of (s2 _ _ ek)), rfl, _, rfl, iteFb ?_ ?_⟩
        · have := nodup_map_inj (f := Nm.s) (fun a b e => nm_inj e) (l := rels'.map Rl.z) (by rw [zz]; exact nd)
          rw [List.map_map] at this
          exact this
        · rw [List.length_map, l1, decide_eq_true rfl]
          rfl
        have s3 : Same H H2 := Same.tr s1 s2
        have hp2 := s3 _ _ hp
        have hk2 := s2 _ _ ek
        refine ⟨_, rfl, _, rfl, p, _, dx, _, rfl, hp2, T.c_Structure, T.n_Structure_size, by show 0 < 1000; decide, ?_⟩
        refine ⟨_, rfl, _, rfl, p, _, dx, _, rfl, upd_same, T.c_Structure, T.n_Structure_relations, by show 1 < 1000; decide, ?_⟩
        rw [upd_upd, putF2]
        have npk : kp ≠ p := ne_of hk2 hp2 (by intro z; cases z)
        refine q _ rels' (fun b o nb e => ?_) ⟨dx, kp, vs, upd_same, (upd_ne npk).trans hk2, Paired.mapP rk fun _ _ z => z.mono ((Same.tupS s2).trans (tupS_upd (fun ys e => by rw [hp2] at e; cases e)))⟩ ra
        rw [upd_ne nb]
        exact s3 _ _ e
end K54
set_option Elab.async false
set_option linter.all false
set_option maxRecDepth 100000
set_option maxHeartbeats 4000000
set_option pp.maxSteps 800
namespace K54
open PySem PySem.Spec PyProof.Rows L2
variable {P : Program} {w : World} {K : PySem.W.Frag} {mg : Str → Option Value} {base : Heap}
def spHeaded (K : PySem.W.Frag) : Sp := fun vs H Q E => ∃ (x : V) (m : Mach), vs = [x] ∧ Dv H x (machD m) ∧ MachOk m ∧ ∀ H', Same H H' → (m.ts = [] → Q .non H') ∧ (m.ts ≠ [] → E (.ref (He.ga K "BadArgument")) none H')
theorem sc_check_headed : FnScope ["machine"] ["machine"] (defScope s_check_headed) := ⟨rfl, rfl, rfl, by decide +kernel, rfl, by decide +kernel, by decide +kernel⟩
theorem d_check_headed (T : Txt w K mg) : Def P w K mg base (L2.CX P w) 8 ("check_headed", none) ["machine"] (spHeaded K) := by
  refine Def.of (k := 7) T.f_check_headed sc_check_headed (fun _ _ _ _ _ _ us hl => match us, hl with | [_], _ => rfl) (fun vs H Q E h => ?_) (fun cdv A outer s H vs Q E hr h => ?_)
  · obtain ⟨x, m, rfl, _⟩ := h
    rfl
  · obtain ⟨x, m, rfl, hm, ok, q⟩ := h
    refine ⟨_, ((pss_cons (ps_expr (pe_f (d_looked_at T) (hr.mono (by decide)) T.g_looked_at pass0 (pa_cons (pv 0) pa_nil)))
       (pss_one (ps_if (pt_truth (pe_ix ix_tup (pv 0) pe_int (fun _ _ => rfl)) (by intro _; rfl))
       (pss_one (ps_raise rfl (takes_of rfl rfl rfl rfl) (pmk_own PySem.F.excBase_ValueError T.x_BadArgument.1 T.g_BadArgument T.x_BadArgument.2.1 (raises_own T.x_BadArgument.2.2.1 T.x_BadArgument.2.2.2) rfl)))
       pss_nil)))), ?_⟩
    obtain ⟨a, c, d, ys, rfl, e1, e2, e3, q3⟩ := mach_inv hm
    refine ⟨_, rfl, _, m, rfl, hm, ok, fun H1 f s1 nf hf => ?_⟩
    refine ⟨_, rfl, _, _, (1 : Int), _, rfl, rfl, SqT.of (s1 _ _ e1), rfl, !(m.ts.map vInt).isEmpty, .inr (.inl ⟨_, SqT.of (s1 _ _ e2), rfl⟩), ?_⟩
    cases ht : m.ts with
    | nil => exact (q H1 s1).1 ht
    | cons t r => exact (q H1 s1).2 (by rw [ht]; simp)
def spPlaces (K : PySem.W.Frag) : Sp := fun vs H Q E => ∃ (x : V) (m : Mach) (p : Addr) (n : Nat) (rels : List Rl) (b : Int), vs = [x, .ref p, .int b] ∧ Dv H x (machD m) ∧ MachOk m ∧ StrAt K H p n rels ∧ rels.length ≤ 6 ∧ n < 1000 ∧
  ∀ H', Same H H' → (fits m rels = true → (m.st * n ^ m.h : Int) ≤ b → Q .non H') ∧ (fits m rels = true → ¬ (m.st * n ^ m.h : Int) ≤ b → E (.ref (He.ga K "TooLarge")) none H') ∧ (fits m rels = false → E (.ref (He.ga K "NotFitting")) none H')
theorem sc_check_places : FnScope ["machine", "structure", "most"] ["machine", "structure", "most"] (defScope s_check_places) := ⟨rfl, rfl, rfl, by decide +kernel, rfl, by decide +kernel, by decide +kernel⟩
theorem d_check_places (T : Txt w K mg) : Def P w K mg base (L2.CX P w) 10 ("check_places", none) ["machine", "structure", "most"] (spPlaces K) := by
  refine Def.of (k := 9) T.f_check_places sc_check_places (fun _ _ _ _ _ _ us hl => match us, hl with | [_, _, _], _ => rfl) (fun vs H Q E h => ?_) (fun cdv A outer s H vs Q E hr h => ?_)
  · obtain ⟨x, m, p, n, rels, b, rfl, _⟩ := h
    rfl
  · obtain ⟨x, m, p, n, rels, b, rfl, hm, ok, hs, h6, hn, q⟩ := h
    refine ⟨_, ((pss_cons (ps_expr (pe_f (d_check_symbols T) (hr.mono (by decide)) T.g_check_symbols (passes_call (takes_of rfl rfl rfl rfl) (fun _ _ _ _ h => h)) (pa_cons (pv 0) (pa_cons (pv 1) pa_nil))))
       (pss_one (ps_if (pt_cmpR op_gt (pe_op op_mul (pe_ix ix_tup (pv 0) pe_int (fun _ _ => rfl)) (pe_f (d_power T) (hr.mono (by decide)) T.g_power pass0 (pa_cons (pe_fld (pv 1) rfl) (pa_cons (pe_ix ix_tup (pv 0) pe_int (fun _ _ => rfl)) pa_nil)))) (pv 2) (nomark _))
       (pss_one (ps_raise rfl (takes_of rfl rfl rfl rfl) (pmk_own PySem.F.excBase_ValueError T.x_TooLarge.1 T.g_TooLarge T.x_TooLarge.2.1 (raises_own T.x_TooLarge.2.2.1 T.x_TooLarge.2.2.2) rfl)))
       pss_nil)))), ?_⟩
    obtain ⟨a, c, d, ys, rfl, e1, e2, e3, q3⟩ := mach_inv hm
    have hs0 := hs
    obtain ⟨dx, l, vs, f1, f2, f3⟩ := hs
    have := ok.h
    have := ok.st
    refine ⟨_, rfl, _, rfl, _, m, p, n, rels, rfl, hm, ok, hs0, h6, fun H1 s1 => ⟨fun hf => ?_, fun hf => (q H1 s1).2.2 hf⟩⟩
    have q := q H1 s1
    refine ⟨_, rfl, _, _, (2 : Int), _, rfl, rfl, SqT.of (s1 _ _ e1), rfl, ?_⟩
    refine ⟨_, rfl, p, _, dx, _, _, rfl, s1 _ _ f1, T.c_Structure, T.n_Structure_size, strF_size _ _, ?_⟩
    refine ⟨_, rfl, _, _, (0 : Int), _, rfl, rfl, SqT.of (s1 _ _ e1), rfl, n, m.h, rfl, by omega, by omega, by omega, ?_⟩
    refine ⟨_, _, rfl, rfl, .inl ⟨by omega, by omega⟩, _, rfl, _, _, rfl, rfl, _, rfl, ite2 (fun hb => ?_) (fun hb => ?_)⟩
    · have hb := of_decide_eq_true hb
      exact q.2.1 hf (by omega)
    · exact q.1 hf (by
        have : ¬ (b < (m.st : Int) * (n : Int) ^ m.h) := fun z => hb (decide_eq_true z)
        omega)
def zeros (h : Nat) : List Int := List.replicate h 0
def spFirst : Sp := fun vs H Q _ => ∃ (x : V) (m : Mach), vs = [x] ∧ Dv H x (machD m) ∧ MachOk m ∧ m.ts = [] ∧ ∀ H' v, Same H H' → KyT H' (nk (0, zeros m.h)) v → Q v H'
theorem sc_first_configuration : FnScope ["machine", "_"] ["machine"] (defScope s_first_configuration) := ⟨rfl, rfl, rfl, by decide +kernel, rfl, by decide +kernel, by decide +kernel⟩
theorem d_first_configuration (T : Txt w K mg) : Def P w K mg base CX0 8 ("first_configuration", none) ["machine"] (spFirst) := by
  refine Def.of0 (k := 7) T.f_first_configuration sc_first_configuration (fun _ _ _ _ _ _ us hl => match us, hl with | [_], _ => rfl) (fun vs H Q E h => ?_) (fun cdv A outer s H vs Q E hr h => ?_)
  · obtain ⟨x, m, rfl, _⟩ := h
    rfl
  · obtain ⟨x, m, rfl, hm, ok, ht, q⟩ := h
    refine ⟨_, ((pss_cons (ps_expr (pe_f (d_looked_at T) (hr.mono (by decide)) T.g_looked_at pass0 (pa_cons (pv 0) pa_nil)))
       (pss_one (ps_ret (pe_tup (pa_cons pe_int (pa_cons (pe_ty call_tuple_of T.b_tuple (pa_cons (pe_lc (own := [("_", 1)]) (g := (gName 1)) (by rfl) sc_first_configuration.nd (pi_range1 (by rfl) T.b_range (pa_cons (pe_ix ix_tup (pv 0) pe_int (fun _ _ => rfl)) pa_nil)) (blkOk_by (own := [("_", 1)]) (N := ["machine", "_"]) (sc := defScope s_first_configuration) (by decide +kernel)) (fun _ _ _ _ _ => (pg_name (i := 1) sc_first_configuration.nd rfl (Or.inl rfl) (Or.inr rfl))) (fun _ _ _ _ _ => pts_nil) (fun _ _ _ _ _ => pe_int)) pa_nil)) (pa_cons (pe_ty call_tuple_of T.b_tuple (pa_cons (pe_lc (own := [("_", 1)]) (g := (gName 1)) (by rfl) sc_first_configuration.nd (pi_tup (pe_ix ix_tup (pv 0) pe_int (fun _ _ => rfl))) (blkOk_by (own := [("_", 1)]) (N := ["machine", "_"]) (sc := defScope s_first_configuration) (by decide +kernel)) (fun _ _ _ _ _ => (pg_name (i := 1) sc_first_configuration.nd rfl (Or.inl rfl) (Or.inr rfl))) (fun _ _ _ _ _ => pts_nil) (fun _ _ _ _ _ => (pe_tup pa_nil))) pa_nil)) pa_nil)))))))), ?_⟩
    obtain ⟨a, c, d, ys, rfl, e1, e2, e3, q3⟩ := mach_inv hm
    have := ok.h
    refine ⟨_, rfl, _, m, rfl, hm, ok, fun H1 f s1 nf hf => ?_⟩
    refine ⟨_, rfl, _, _, (0 : Int), _, rfl, rfl, SqT.of (s1 _ _ e1), rfl, m.h, rfl, by omega, by omega, fun D nD => lc_range (lo := 0) (n := m.h) (fun i H2 => Same H1 H2 ∧ H2 D = some (.lst ((zeros i).map V.int))) ⟨same_upd nD, upd_same⟩ ?_ ?_⟩
    · rintro i H2 hi ⟨s2, eD⟩
      refine ⟨rfl, _, eD, ?_, fun b o e => ?_, ?_⟩
      · rw [List.length_map]
        unfold zeros
        rw [List.length_replicate, sizeLine_eq]
        omega
      · rw [upd_ne (ne_of_none e nD)]
        exact s2 _ _ e
      · rw [upd_same]
        unfold zeros
        rw [List.replicate_succ', List.map_append]
        rfl
    · rintro H2 ⟨s2, eD⟩
      refine ⟨D, _, rfl, .inl ⟨SqL.of eD, fun t1 n1 => ?_⟩⟩
      have s3 := Same.tr s1 (Same.tr s2 (same_upd (o := .tup ((zeros m.h).map V.int)) n1))
      have et1 := upd_same (H := H2) (a := t1) (o := .tup ((zeros m.h).map V.int))
      generalize upd H2 t1 (.tup ((zeros m.h).map V.int)) = H3 at s3 et1 ⊢
      refine ⟨_, rfl, _, _, (1 : Int), _, rfl, rfl, SqT.of (s3 _ _ e1), rfl, c, rfl, ⟨_, SqT.of (s3 _ _ e2)⟩, fun D2 nD2 => lc_tup (K := K) (a := c) (xs := m.ts.map vInt) (fun i H4 => H4 = upd H3 D2 (.lst [])) rfl ?_ ?_ ?_⟩
      · rintro i H4 hi rfl
        exact SqT.of (same_upd nD2 _ _ (s3 _ _ e2))
      · rintro i y H4 hy
        rw [ht] at hy
        cases hy
      · rintro H4 rfl
        refine ⟨D2, _, rfl, .inl ⟨SqL.of upd_same, fun t2 n2 => ⟨by show 3 ≤ sizeLine; decide, fun t3 n3 => ?_⟩⟩⟩
        have s5 := Same.tr (same_upd (o := .lst []) nD2) (Same.tr (same_upd (o := .tup []) n2) (same_upd (o := .tup [.int 0, .ref t1, .ref t2]) n3))
        refine q _ _ (Same.tr s3 s5) (.tup upd_same (.cons (.num 0) (.cons (.tup (s5 _ _ et1) ?_) (.cons (.tup (xs := []) ?_ .nil) .nil))))
        · generalize zeros m.h = zs
          induction zs with
          | nil => exact .nil
          | cons z zs ih => exact .cons (.num z) ih
        · have : t2 ≠ t3 := fun z => by rw [← z, upd_same] at n3; cases n3
          rw [upd_ne this]
          exact upd_same
end K54
set_option Elab.async false
set_option linter.all false
set_option maxRecDepth 100000
set_option maxHeartbeats 4000000
set_option pp.maxSteps 800
namespace K54
open PySem PySem.Spec PyProof.Rows L2
def relHas (rels : List Rl) (z : Nm) (k : List Int) : Bool := rels.any fun r => decide (r.z = z) && decide (k ∈ r.ks)
def at' (hs : List Int) (i : Nat) : Int := (hs[i]?).getD 0
def evalC (n : Nat) (R : Nm → List Int → Bool) (hs : List Int) : Cond → Bool
  | .rel z is f => R z (is.map (at' hs)) == f
  | .eq i j f => decide (at' hs i = at' hs j) == f
  | .less i j f => decide (at' hs i < at' hs j) == f
  | .last i f => decide (at' hs i = (n : Int) - 1) == f
def moveA (n : Nat) (hs : List Int) : Act → Option (List Int)
  | .up i => if at' hs i + 1 = (n : Int) then none else some (hs.set i (at' hs i + 1))
  | .down i => if at' hs i - 1 < 0 then none else some (hs.set i (at' hs i - 1))
  | .zero i => some (hs.set i 0)
  | .copy i j => some (hs.set i (at' hs j))
def moves (n : Nat) : List Int → List Act → Option (List Int)
  | hs, [] => some hs
  | hs, a :: as => match moveA n hs a with
    | none => none
    | some hs' => moves n hs' as
def ruAt (rs : List Rule) (q : Nat) : List (Rule × Nat) := rs.zipIdx.filter fun p => decide (p.1.q = q)
def applyR (n : Nat) (R : Nm → List Int → Bool) (hs : List Int) (p : Rule × Nat) : Option (Nat × Cf) :=
  if (p.1.cs.map (evalC n R hs)).all id then (moves n hs p.1.as).map fun hs' => (p.2, (p.1.q', hs')) else none
def nexts (m : Mach) (n : Nat) (R : Nm → List Int → Bool) (c : Cf) : List (Nat × Cf) := (ruAt m.rs c.1).filterMap (applyR n R c.2)
structure CfOk (m : Mach) (n : Nat) (c : Cf) : Prop where
  q : c.1 < m.st
  len : c.2.length = m.h
  pos : ∀ v ∈ c.2, 0 ≤ v ∧ v < (n : Int)
theorem at_mem {hs : List Int} {i : Nat} (h : i < hs.length) : at' hs i ∈ hs := by
  unfold at'
  rw [List.getElem?_eq_getElem h]
  exact List.getElem_mem h
theorem at_some {hs : List Int} {i : Nat} (h : i < hs.length) : hs[i]? = some (at' hs i) := by
  unfold at'
  rw [List.getElem?_eq_getElem h]
  rfl
theorem set_ok {hs : List Int} {i : Nat} {v : Int} {n : Nat} (h : ∀ x ∈ hs, 0 ≤ x ∧ x < (n : Int)) (hv : 0 ≤ v ∧ v < n) : ∀ x ∈ hs.set i v, 0 ≤ x ∧ x < (n : Int) := fun x hx => by
  rcases List.mem_or_eq_of_mem_set hx with hx | rfl
  · exact h x hx
  · exact hv
theorem moveA_ok {n h : Nat} {hs hs' : List Int} {a : Act} (n1 : 1 ≤ n) (ha : actOk h a) (hl : hs.length = h) (hp : ∀ x ∈ hs, 0 ≤ x ∧ x < (n : Int)) (e : moveA n hs a = some hs') : hs'.length = h ∧ ∀ x ∈ hs', 0 ≤ x ∧ x < (n : Int) := by
  cases a with
  | up i =>
    have hi := hp _ (at_mem (hs := hs) (i := i) (by rw [hl]; exact ha))
    unfold moveA at e
    simp only at e
    split at e
    · cases e
    · cases e
      exact ⟨by rw [List.length_set]; exact hl, set_ok hp ⟨by omega, by omega⟩⟩
  | down i =>
    have hi := hp _ (at_mem (hs := hs) (i := i) (by rw [hl]; exact ha))
    unfold moveA at e
    simp only at e
    split at e
    · cases e
    · cases e
      exact ⟨by rw [List.length_set]; exact hl, set_ok hp ⟨by omega, by omega⟩⟩
  | zero i =>
    unfold moveA at e
    cases e
    exact ⟨by rw [List.length_set]; exact hl, set_ok hp ⟨by omega, by omega⟩⟩
  | copy i j =>
    have hj := hp _ (at_mem (hs := hs) (i := j) (by rw [hl]; exact ha.2))
    unfold moveA at e
    cases e
    exact ⟨by rw [List.length_set]; exact hl, set_ok hp hj⟩
theorem moves_ok {n h : Nat} (n1 : 1 ≤ n) : ∀ {as : List Act} {hs hs' : List Int}, (∀ a ∈ as, actOk h a) → hs.length = h → (∀ x ∈ hs, 0 ≤ x ∧ x < (n : Int)) → moves n hs as = some hs' → hs'.length = h ∧ ∀ x ∈ hs', 0 ≤ x ∧ x < (n : Int)
  | [], hs, hs', _, hl, hp, e => by
    unfold moves at e
    cases e
    exact ⟨hl, hp⟩
  | a :: as, hs, hs', ha, hl, hp, e => by
    unfold moves at e
    cases hm : moveA n hs a with
    | none => rw [hm] at e; cases e
    | some h1 =>
      rw [hm] at e
      have k := moveA_ok n1 (ha a (by simp)) hl hp hm
      exact moves_ok n1 (fun b hb => ha b (List.mem_cons_of_mem _ hb)) k.1 k.2 e
theorem ruAt_mem {rs : List Rule} {q : Nat} {p : Rule × Nat} (h : p ∈ ruAt rs q) : p.1 ∈ rs ∧ p.1.q = q := by
  unfold ruAt at h
  rw [List.mem_filter] at h
  exact ⟨(List.mem_zipIdx' h.1).2 ▸ List.getElem_mem _, of_decide_eq_true h.2⟩
theorem nexts_ok {m : Mach} {n : Nat} {R : Nm → List Int → Bool} {c : Cf} (ok : MachOk m) (n1 : 1 ≤ n) (hc : CfOk m n c) : ∀ p ∈ nexts m n R c, CfOk m n p.2 := fun p hp => by
  unfold nexts at hp
  rw [List.mem_filterMap] at hp
  obtain ⟨r, hr, e⟩ := hp
  obtain ⟨hr1, hr2⟩ := ruAt_mem hr
  unfold applyR at e
  split at e
  · cases hm : moves n c.2 r.1.as with
    | none => rw [hm] at e; cases e
    | some hs' =>
      rw [hm] at e
      cases e
      have k := moves_ok n1 (ok.rs _ hr1).as hc.len hc.pos hm
      exact ⟨(ok.rs _ hr1).q', k.1, k.2⟩
  · cases e
theorem first_ok {m : Mach} {n : Nat} (ok : MachOk m) (n1 : 1 ≤ n) : CfOk m n (0, zeros m.h) := by
  refine ⟨?_, ?_, ?_⟩
  · have := ok.st2
    show 0 < m.st
    omega
  · unfold zeros
    rw [List.length_replicate]
  · intro v hv
    have : v = 0 := List.eq_of_mem_replicate hv
    omega
theorem ruAt_snoc {rs : List Rule} {i : Nat} {r : Rule} (h : rs[i]? = some r) (q : Nat) : ruAt (rs.take (i + 1)) q = if r.q = q then ruAt (rs.take i) q ++ [(r, i)] else ruAt (rs.take i) q := by
  have hi : i < rs.length := (List.getElem?_eq_some_iff.mp h).1
  unfold ruAt
  rw [List.take_add_one, h, List.zipIdx_append, List.filter_append, List.length_take, Nat.min_eq_left (Nat.le_of_lt hi)]
  simp only [Option.toList_some, List.zipIdx_cons, List.zipIdx_nil, Nat.zero_add]
  by_cases e : r.q = q
  · rw [if_pos e, List.filter_cons_of_pos (by simpa using e)]
    rfl
  · rw [if_neg e, List.filter_cons_of_neg (by simpa using e)]
    rw [List.filter_nil, List.append_nil]
end K54
set_option Elab.async false
set_option linter.all false
set_option maxRecDepth 100000
set_option maxHeartbeats 4000000
set_option pp.maxSteps 800
namespace K54
open PySem PySem.Spec PyProof.Rows L2
variable {P : Program} {w : World} {K : PySem.W.Frag} {mg : Str → Option Value} {base : Heap}
def irD (p : Rule × Nat) : PyData := .tuple [dInt p.2, ruleD p.1]
theorem noL_ir (p : Rule × Nat) : noL (irD p) = true := by
  show noLs [dInt p.2, ruleD p.1] = true
  simp [noLs, noL, noL_rule]
structure ByStL (H0 H : Hp) (d : Addr) (rs : List Rule) (kvs : List (Key × V)) (L : Nat → Addr) : Prop where
  at_ : H d = some (.dK kvs)
  len : kvs.length ≤ rs.length
  inj : ∀ q q', L q = L q' → ruAt rs q ≠ [] → ruAt rs q' ≠ [] → q = q'
  no : ∀ q : Nat, ruAt rs q = [] → valV kvs (.inl (q : Int)) = none
  yes : ∀ q : Nat, ruAt rs q ≠ [] → valV kvs (.inl (q : Int)) = some (.ref (L q)) ∧ Dv H (.ref (L q)) (.list ((ruAt rs q).map irD)) ∧ H0 (L q) = none
def BySt (H : Hp) (d : Addr) (rs : List Rule) : Prop := ∃ kvs, H d = some (.dK kvs) ∧ ∀ q : Nat, (ruAt rs q = [] ∧ valV kvs (.inl (q : Int)) = none) ∨ ∃ l, valV kvs (.inl (q : Int)) = some (.ref l) ∧ Dv H (.ref l) (.list ((ruAt rs q).map irD))
theorem ByStL.out {H0 H : Hp} {d : Addr} {rs : List Rule} {kvs : List (Key × V)} {L : Nat → Addr} (b : ByStL H0 H d rs kvs L) : BySt H d rs := ⟨kvs, b.at_, fun q => by
  by_cases h : ruAt rs q = []
  · exact .inl ⟨h, b.no q h⟩
  · exact .inr ⟨L q, (b.yes q h).1, (b.yes q h).2.1⟩⟩
theorem Dv.put {H : Hp} {a : Addr} {o : HO} {v : V} {ds : List PyData} (nl : noLs ds = true) (h : Dv H v (.list ds)) (hv : v ≠ .ref a) (ha : ∀ ys, H a ≠ some (.tup ys)) : Dv (upd H a o) v (.list ds) := by
  obtain ⟨b, xs, rfl, e, r⟩ := h.lst_inv
  exact .lst ((upd_ne (fun z => hv (by rw [z]))).trans e) (r.monoT (tupS_upd ha) nl)
theorem ruAt_take_succ_ne {rs : List Rule} {i : Nat} {r : Rule} (h : rs[i]? = some r) {q : Nat} (hq : r.q ≠ q) : ruAt (rs.take (i + 1)) q = ruAt (rs.take i) q := by
  rw [ruAt_snoc h, if_neg hq]
theorem ruAt_take_succ_eq {rs : List Rule} {i : Nat} {r : Rule} (h : rs[i]? = some r) : ruAt (rs.take (i + 1)) r.q = ruAt (rs.take i) r.q ++ [(r, i)] := by
  rw [ruAt_snoc h, if_pos rfl]
def spBySt : Sp := fun vs H Q _ => ∃ (x : V) (m : Mach), vs = [x] ∧ Dv H x (machD m) ∧ m.rs.length ≤ 1000 ∧ ∀ H' d, Same H H' → BySt H' d m.rs → Q (.ref d) H'
theorem sc_by_state : FnScope ["machine", "found", "index", "rule"] ["machine"] (defScope s_by_state) := ⟨rfl, rfl, rfl, by decide +kernel, rfl, by decide +kernel, by decide +kernel⟩
theorem d_by_state (T : Txt w K mg) : Def P w K mg base CX0 1 ("by_state", none) ["machine"] (spBySt) := by
  refine Def.of0 (k := 0) T.f_by_state sc_by_state (fun _ _ _ _ _ _ us hl => match us, hl with | [_], _ => rfl) (fun vs H Q E h => ?_) (fun cdv A outer s H vs Q E hr h => ?_)
  · obtain ⟨x, m, rfl, _⟩ := h
    rfl
  · obtain ⟨x, m, rfl, hm, hlen, q⟩ := h
    refine ⟨_, ((pss_cons (ps_set (i := 1) sc_by_state.nd rfl (Or.inl rfl) pe_dnewK)
       (pss_cons (ps_for PassesOwn.never rfl (pi_enumT (by rfl) T.b_enumerate (pa_cons (pe_ix ix_tup (pv 0) pe_int (fun _ _ => rfl)) pa_nil)) (pg_tup rfl (pgs_cons (pg_name (i := 2) sc_by_state.nd rfl (Or.inl rfl)) (pgs_cons (pg_name (i := 3) sc_by_state.nd rfl (Or.inl rfl)) pgs_nil)))
       (pss_one (ps_expr (pe_bm PySem.F.plainAttrs_list PySem.F.slot_list_append PySem.F.type_list_append mt_append (pe_dsetd (pv 1) (pe_ix ix_tup (pv 3) pe_int (fun _ _ => rfl)) (pe_lst pa_nil) ⟨rfl, rfl, rfl, rfl⟩) (pa_cons (pe_tup (pa_cons (pv 2) (pa_cons (pv 3) pa_nil))) pa_nil)))))
       (pss_one (ps_ret (pv 1)))))), ?_⟩
    obtain ⟨a, c, dr, ys, rfl, e1, e2, e3, q3⟩ := mach_inv hm
    have l3 : ys.length = m.rs.length := by rw [q3.len, List.length_map]
    intro d hd
    have s0 := same_upd (o := .dK []) hd
    refine ⟨_, rfl, _, _, (3 : Int), _, rfl, rfl, SqT.of (s0 _ _ e1), rfl, dr, ys, rfl, SqT.of (s0 _ _ e3), for_it walk_enumT (fun i σ H' => Same H H' ∧ (∃ kvs L, ByStL H H' d (m.rs.take i) kvs L) ∧ ∃ v w, σ = [some (.ref a), some (.ref d), v, w])
      ⟨s0, ⟨[], fun _ => 0, upd_same, Nat.le_refl _, fun _ _ _ z => absurd rfl z, fun _ _ => rfl, fun _ z => absurd rfl z⟩, _, _, rfl⟩ (fun i σ H' _ p => SqT.of (p.1 _ _ e3)) ?_ ?_⟩
    · rintro i x σ H' H1 hi ⟨s1, ⟨kvs, L, b⟩, v, w', rfl⟩ ⟨t, u, y, rfl, nt, rfl, hu, hy⟩
      cases hu
      obtain ⟨r, hr1, rr⟩ := q3.gets hy
      obtain ⟨ra, rc, rd, rxs, rys, rfl, f1, _⟩ := rule_inv rr
      have s2 := Same.tr s1 (same_upd (o := .tup [.int (i : Nat), .ref ra]) nt)
      have b2 : ByStL H (upd H' t (.tup [.int (i : Nat), .ref ra])) d (m.rs.take i) kvs L := ⟨same_upd nt _ _ b.at_, b.len, b.inj, b.no, fun q h => ⟨(b.yes q h).1, (b.yes q h).2.1.mono (same_upd nt), (b.yes q h).2.2⟩⟩
      have et : (upd H' t (.tup [.int (i : Nat), .ref ra])) t = some (.tup [.int (i : Nat), .ref ra]) := upd_same
      generalize upd H' t (.tup [.int (i : Nat), .ref ra]) = H1 at s2 b2 et ⊢
      refine ⟨t, _, rfl, SqT.of et, rfl, _, _, rfl, _, _, rfl, rfl, ?_⟩
      refine ⟨_, rfl, d, rfl, .inl ⟨_, .inl b2.at_⟩, _, rfl, _, _, (0 : Int), _, rfl, rfl, SqT.of (s2 _ _ f1), rfl, Nat.zero_le _, fun p np => ?_⟩
      have s3 := Same.tr s2 (same_upd (o := .lst []) np)
      have np0 : H p = none := by
        cases hp : H p with
        | none => rfl
        | some o => rw [s2 _ _ hp] at np; cases np
      have b3 : ByStL H (upd H1 p (.lst [])) d (m.rs.take i) kvs L := ⟨same_upd np _ _ b2.at_, b2.len, b2.inj, b2.no, fun q h => ⟨(b2.yes q h).1, (b2.yes q h).2.1.mono (same_upd np), (b2.yes q h).2.2⟩⟩
      have ep : (upd H1 p (.lst [])) p = some (.lst []) := upd_same
      have npL : ∀ q, ruAt (m.rs.take i) q ≠ [] → p ≠ L q := fun q h z => by
        obtain ⟨_, xs, e, e4, _⟩ := (b2.yes q h).2.1.lst_inv
        cases e
        rw [← z, np] at e4
        cases e4
      generalize upd H1 p (.lst []) = H2 at s3 b3 ep ⊢
      have hi2 : i < m.rs.length := by rw [← l3]; exact hi
      have lk : kvs.length ≤ i := by
        have := b3.len
        rw [List.length_take] at this
        omega
      refine ⟨kvs, .inl (r.q : Int), b3.at_, rfl, by rw [sizeLine_eq]; omega, ?_, ?_⟩
      · -- the list stands
        intro v hv
        have hne : ruAt (m.rs.take i) r.q ≠ [] := fun z => by
          rw [b3.no _ z] at hv
          cases hv
        obtain ⟨g1, g2, g3⟩ := b3.yes _ hne
        rw [g1] at hv
        cases hv
        obtain ⟨_, vs, e, ev, rv⟩ := g2.lst_inv
        cases e
        refine ⟨.inl ⟨rfl, _, SqL.of ev⟩, _, rfl, _, rfl, by show 2 ≤ sizeLine; decide, fun t2 nt2 => ?_⟩
        have s4 := same_upd (o := .tup [.int (i : Nat), .ref ra]) nt2
        have ev2 := s4 _ _ ev
        have lv : vs.length ≤ 1000 := by
          rw [rv.len, List.length_map]
          have := (List.filter_sublist (l := (m.rs.take i).zipIdx) (p := fun p => decide (p.1.q = r.q))).length_le
          rw [List.length_zipIdx, List.length_take] at this
          have e : (ruAt (m.rs.take i) r.q).length ≤ i := Nat.le_trans this (Nat.min_le_left _ _)
          omega
        refine ⟨_, _, _, rfl, rfl, ev2, by rw [sizeLine_eq]; omega, ?_⟩
        have tt : TupS H2 (upd (upd H2 t2 (.tup [.int (i : Nat), .ref ra])) (L r.q) (.lst (vs ++ [.ref t2]))) := (Same.tupS s4).trans (tupS_upd (fun ys e => by rw [ev2] at e; cases e))
        have ndl : d ≠ L r.q := ne_of b3.at_ ev (by intro z; cases z)
        refine ⟨fun b o e => ?_, ⟨kvs, L, ?_, ?_, ?_, ?_, ?_⟩, _, _, rfl⟩
        · rw [upd_ne (ne_of_none e g3)]
          exact s4 _ _ (s3 _ _ e)
        · rw [upd_ne ndl]
          exact s4 _ _ b3.at_
        · have := b3.len
          rw [List.length_take] at this ⊢
          omega
        · intro q q' e h1 h2
          have k : ∀ q, ruAt (m.rs.take (i + 1)) q ≠ [] → ruAt (m.rs.take i) q ≠ [] := fun q h z => by
            by_cases hq : r.q = q
            · subst hq
              exact hne z
            · rw [ruAt_take_succ_ne hr1 hq] at h
              exact h z
          exact b3.inj q q' e (k q h1) (k q' h2)
        · intro q h
          have hq : r.q ≠ q := fun z => by
            rw [← z, ruAt_take_succ_eq hr1] at h
            simp at h
          rw [ruAt_take_succ_ne hr1 hq] at h
          exact b3.no q h
        · intro q h
          by_cases hq : r.q = q
          · subst hq
            rw [ruAt_take_succ_eq hr1, List.map_append]
            refine ⟨g1, .lst upd_same ((rv.monoT tt (noL_all noL_ir _)).append (.cons (.tup (xs := [.int (i : Nat), .ref ra]) ?_ (.cons (.int _) (.cons (rr.monoT ((Same.tupS s3).trans tt) (noL_rule r)) .nil))) .nil)), g3⟩
            rw [upd_ne (fun z => by rw [z, ev] at nt2; cases nt2)]
            exact upd_same
          · rw [ruAt_take_succ_ne hr1 hq] at h ⊢
            obtain ⟨h1, h2, h3⟩ := b3.yes q h
            refine ⟨h1, (h2.mono s4).put (noL_all noL_ir _) (fun z => hq ?_) (fun ys e => by rw [ev2] at e; cases e), h3⟩
            exact (b3.inj q r.q (V.ref.inj z) h hne).symm
      · intro hv
        have hno : ruAt (m.rs.take i) r.q = [] := by
          cases h : ruAt (m.rs.take i) r.q with
          | nil => rfl
          | cons y l => rw [(b3.yes r.q (by rw [h]; simp)).1] at hv; cases hv
        have npd : p ≠ d := ne_of ep b3.at_ (by intro z; cases z)
        have ep3 : (upd H2 d (.dK (putK kvs (.inl (r.q : Int)) (.ref p)))) p = some (.lst []) := (upd_ne npd).trans ep
        have ed3 : (upd H2 d (.dK (putK kvs (.inl (r.q : Int)) (.ref p)))) d = some (.dK (putK kvs (.inl (r.q : Int)) (.ref p))) := upd_same
        have k3 : ∀ b o, b ≠ d → H2 b = some o → (upd H2 d (.dK (putK kvs (.inl (r.q : Int)) (.ref p)))) b = some o := fun b o n e => (upd_ne n).trans e
        have t3 : TupS H2 (upd H2 d (.dK (putK kvs (.inl (r.q : Int)) (.ref p)))) := tupS_upd (fun ys e => by rw [b3.at_] at e; cases e)
        generalize upd H2 d (.dK (putK kvs (.inl (r.q : Int)) (.ref p))) = H3 at ep3 ed3 k3 t3 ⊢
        refine ⟨.inl ⟨rfl, _, SqL.of ep3⟩, _, rfl, _, rfl, by show 2 ≤ sizeLine; decide, fun t2 nt2 => ?_⟩
        have s4 := same_upd (o := .tup [.int (i : Nat), .ref ra]) nt2
        have ep4 := s4 _ _ ep3
        refine ⟨_, _, _, rfl, rfl, ep4, by show 0 < sizeLine; decide, ?_⟩
        have tt : TupS H2 (upd (upd H3 t2 (.tup [.int (i : Nat), .ref ra])) p (.lst ([] ++ [.ref t2]))) := t3.trans ((Same.tupS s4).trans (tupS_upd (fun ys e => by rw [ep4] at e; cases e)))
        refine ⟨fun b o e => ?_, ⟨putK kvs (.inl (r.q : Int)) (.ref p), fun q => if q = r.q then p else L q, ?_, ?_, ?_, ?_, ?_⟩, _, _, rfl⟩
        · have e2 := s3 _ _ e
          rw [upd_ne (ne_of_none e np0)]
          exact s4 _ _ (k3 _ _ (ne_of_none e hd) e2)
        · rw [upd_ne npd.symm]
          exact s4 _ _ ed3
        · have := b3.len
          rw [putK_new _ hv, List.length_append, List.length_singleton, List.length_take]
          omega
        · intro q q' e h1 h2
          by_cases hq : q = r.q <;> by_cases hq' : q' = r.q
          · rw [hq, hq']
          · simp only [hq, if_true, if_neg hq'] at e
            rw [ruAt_take_succ_ne hr1 (Ne.symm hq')] at h2
            exact absurd e (npL q' h2)
          · simp only [hq', if_true, if_neg hq] at e
            rw [ruAt_take_succ_ne hr1 (Ne.symm hq)] at h1
            exact absurd e.symm (npL q h1)
          · simp only [if_neg hq, if_neg hq'] at e
            rw [ruAt_take_succ_ne hr1 (Ne.symm hq)] at h1
            rw [ruAt_take_succ_ne hr1 (Ne.symm hq')] at h2
            exact b3.inj q q' e h1 h2
        · intro q h
          have hq : r.q ≠ q := fun z => by
            rw [← z, ruAt_take_succ_eq hr1] at h
            simp at h
          rw [ruAt_take_succ_ne hr1 hq] at h
          rw [valV_put, if_neg (fun z => hq (by have := Sum.inl.inj z; omega))]
          exact b3.no q h
        · intro q h
          by_cases hq : r.q = q
          · subst hq
            rw [ruAt_take_succ_eq hr1, hno, valV_put, if_pos rfl, if_pos rfl]
            refine ⟨rfl, .lst upd_same (.cons (.tup (xs := [.int (i : Nat), .ref ra]) ?_ (.cons (.int _) (.cons (rr.monoT ((Same.tupS s3).trans tt) (noL_rule r)) .nil))) .nil), np0⟩
            rw [upd_ne (fun z => by rw [z, ep3] at nt2; cases nt2)]
            exact upd_same
          · rw [ruAt_take_succ_ne hr1 hq] at h ⊢
            obtain ⟨h1, h2, h3⟩ := b3.yes q h
            rw [valV_put, if_neg (fun z => hq (by have := Sum.inl.inj z; omega)), if_neg (Ne.symm hq)]
            obtain ⟨_, xs, e, e4, r4⟩ := h2.lst_inv
            cases e
            have ndl : L q ≠ d := ne_of e4 b3.at_ (by intro z; cases z)
            refine ⟨h1, .lst ?_ (r4.monoT tt (noL_all noL_ir _)), h3⟩
            rw [upd_ne (npL q h).symm]
            exact s4 _ _ (k3 _ _ ndl e4)
    · rintro σ H' ⟨s1, ⟨kvs, L, b⟩, v, w', rfl⟩
      rw [l3, List.take_length] at b
      exact ⟨_, rfl, q _ d s1 b.out⟩
end K54
set_option Elab.async false
set_option linter.all false
set_option maxRecDepth 100000
set_option maxHeartbeats 4000000
set_option pp.maxSteps 800
namespace K54
open PySem PySem.Spec PyProof.Rows L2
def plF (n dr de st hd mk : V) : List (Str × V) := [("size", n), ("rules", dr), ("relations", de), ("state", st), ("heads", hd), ("marks", mk)]
theorem lk_ne {k x : Str} {v : V} {r : List (Str × V)} (h : (k == x) = false) : List.lookup k ((x, v) :: r) = List.lookup k r := by
  rw [List.lookup_cons, h]
theorem lk_eq {k : Str} {v : V} {r : List (Str × V)} : List.lookup k ((k, v) :: r) = some v := by
  rw [List.lookup_cons, beq_self_eq_true]
theorem pf_ne {k x : Str} {u v : V} {r : List (Str × V)} (h : ¬ x = k) : putF k v ((x, u) :: r) = (x, u) :: putF k v r := by
  show (if x = k then (x, v) :: r else (x, u) :: putF k v r) = _
  rw [if_neg h]
theorem pf_eq {k : Str} {u v : V} {r : List (Str × V)} : putF k v ((k, u) :: r) = (k, v) :: r := by
  show (if k = k then (k, v) :: r else (k, u) :: putF k v r) = _
  rw [if_pos rfl]
theorem pf_nil {k : Str} {v : V} : putF k v [] = [(k, v)] := rfl
section
variable {n dr de st hd mk : V}
theorem plF_size : (plF n dr de st hd mk).lookup ("size" : Str) = some n := by
  unfold plF
  rw [lk_eq]
theorem plF_rules : (plF n dr de st hd mk).lookup ("rules" : Str) = some dr := by
  unfold plF
  rw [lk_ne (by decide +kernel), lk_eq]
theorem plF_relations : (plF n dr de st hd mk).lookup ("relations" : Str) = some de := by
  unfold plF
  rw [lk_ne (by decide +kernel), lk_ne (by decide +kernel), lk_eq]
theorem plF_state : (plF n dr de st hd mk).lookup ("state" : Str) = some st := by
  unfold plF
  rw [lk_ne (by decide +kernel), lk_ne (by decide +kernel), lk_ne (by decide +kernel), lk_eq]
theorem plF_heads : (plF n dr de st hd mk).lookup ("heads" : Str) = some hd := by
  unfold plF
  rw [lk_ne (by decide +kernel), lk_ne (by decide +kernel), lk_ne (by decide +kernel), lk_ne (by decide +kernel), lk_eq]
theorem plF_marks : (plF n dr de st hd mk).lookup ("marks" : Str) = some mk := by
  unfold plF
  rw [lk_ne (by decide +kernel), lk_ne (by decide +kernel), lk_ne (by decide +kernel), lk_ne (by decide +kernel), lk_ne (by decide +kernel), lk_eq]
theorem plF_load : (plF n dr de st hd mk).lookup ("load" : Str) = none := by
  unfold plF
  rw [lk_ne (by decide +kernel), lk_ne (by decide +kernel), lk_ne (by decide +kernel), lk_ne (by decide +kernel), lk_ne (by decide +kernel), lk_ne (by decide +kernel)]
  rfl
theorem plF_true : (plF n dr de st hd mk).lookup ("true" : Str) = none := by
  unfold plF
  rw [lk_ne (by decide +kernel), lk_ne (by decide +kernel), lk_ne (by decide +kernel), lk_ne (by decide +kernel), lk_ne (by decide +kernel), lk_ne (by decide +kernel)]
  rfl
theorem plF_moved : (plF n dr de st hd mk).lookup ("moved" : Str) = none := by
  unfold plF
  rw [lk_ne (by decide +kernel), lk_ne (by decide +kernel), lk_ne (by decide +kernel), lk_ne (by decide +kernel), lk_ne (by decide +kernel), lk_ne (by decide +kernel)]
  rfl
theorem plF_applying : (plF n dr de st hd mk).lookup ("applying" : Str) = none := by
  unfold plF
  rw [lk_ne (by decide +kernel), lk_ne (by decide +kernel), lk_ne (by decide +kernel), lk_ne (by decide +kernel), lk_ne (by decide +kernel), lk_ne (by decide +kernel)]
  rfl
theorem plF_put_state {x : V} : putF "state" x (plF n dr de st hd mk) = plF n dr de x hd mk := by
  unfold plF
  rw [pf_ne (by decide +kernel), pf_ne (by decide +kernel), pf_ne (by decide +kernel), pf_eq]
theorem plF_put_heads {x : V} : putF "heads" x (plF n dr de st hd mk) = plF n dr de st x mk := by
  unfold plF
  rw [pf_ne (by decide +kernel), pf_ne (by decide +kernel), pf_ne (by decide +kernel), pf_ne (by decide +kernel), pf_eq]
theorem plF_put_marks {x : V} : putF "marks" x (plF n dr de st hd mk) = plF n dr de st hd x := by
  unfold plF
  rw [pf_ne (by decide +kernel), pf_ne (by decide +kernel), pf_ne (by decide +kernel), pf_ne (by decide +kernel), pf_ne (by decide +kernel), pf_eq]
theorem pl_put1 : putF "rules" dr ([("size", n)] : List (Str × V)) = ([("size", n), ("rules", dr)] : List (Str × V)) := by
  rw [pf_ne (by decide +kernel), pf_nil]
theorem pl_put2 : putF "relations" de ([("size", n), ("rules", dr)] : List (Str × V)) = ([("size", n), ("rules", dr), ("relations", de)] : List (Str × V)) := by
  rw [pf_ne (by decide +kernel), pf_ne (by decide +kernel), pf_nil]
theorem pl_put3 : putF "state" st ([("size", n), ("rules", dr), ("relations", de)] : List (Str × V)) = ([("size", n), ("rules", dr), ("relations", de), ("state", st)] : List (Str × V)) := by
  rw [pf_ne (by decide +kernel), pf_ne (by decide +kernel), pf_ne (by decide +kernel), pf_nil]
theorem pl_put4 : putF "heads" hd ([("size", n), ("rules", dr), ("relations", de), ("state", st)] : List (Str × V)) = ([("size", n), ("rules", dr), ("relations", de), ("state", st), ("heads", hd)] : List (Str × V)) := by
  rw [pf_ne (by decide +kernel), pf_ne (by decide +kernel), pf_ne (by decide +kernel), pf_ne (by decide +kernel), pf_nil]
theorem pl_put5 : putF "marks" mk ([("size", n), ("rules", dr), ("relations", de), ("state", st), ("heads", hd)] : List (Str × V)) = ([("size", n), ("rules", dr), ("relations", de), ("state", st), ("heads", hd), ("marks", mk)] : List (Str × V)) := by
  rw [pf_ne (by decide +kernel), pf_ne (by decide +kernel), pf_ne (by decide +kernel), pf_ne (by decide +kernel), pf_ne (by decide +kernel), pf_nil]
theorem pl3_rel : List.lookup ("relations" : Str) ([("size", n), ("rules", dr), ("relations", de)] : List (Str × V)) = some de := by
  rw [lk_ne (by decide +kernel), lk_ne (by decide +kernel), lk_eq]
end
def RelD (P : Program) (w : World) (H : Hp) (de : Addr) (rels : List Rl) : Prop := ∃ kvs, H de = some (.dK kvs) ∧ ∀ r ∈ rels, ∃ a ks, valV kvs (.inr r.z.s) = some (.ref a) ∧ NdAt P w H a ks ∧ ∀ k, rowK k ∈ ks ↔ k ∈ r.ks
structure PlK (P : Program) (w : World) (H : Hp) (m : Mach) (rels : List Rl) (dr de : Addr) : Prop where
  by_ : BySt H dr m.rs
  rl : RelD P w H de rels
def PlAt (K : PySem.W.Frag) (H : Hp) (p : Addr) (n : Nat) (dr de : Addr) (c : Cf) : Prop :=
  ∃ dx hd mk, H p = some (.ins (He.ga K "Place") dx (plF (vInt n) (.ref dr) (.ref de) (vInt c.1) (.ref hd) (.ref mk))) ∧ H hd = some (.lst (c.2.map V.int)) ∧ H mk = some (.lst [])
theorem Dv.monoI {H H' : Hp} {p C dx : Addr} {fs : List (Str × V)} (e : H p = some (.ins C dx fs)) (k : Kx p H H') : ∀ {v : V} {d : PyData}, Dv H v d → Dv H' v d := by
  have h1 : ∀ a xs, H a = some (.lst xs) → H' a = some (.lst xs) := fun a xs h => k _ _ (ne_of h e (by intro z; cases z)) h
  have h2 : ∀ a xs, H a = some (.tup xs) → H' a = some (.tup xs) := fun a xs h => k _ _ (ne_of h e (by intro z; cases z)) h
  intro v d h
  exact Dv.rec (motive_1 := fun v d _ => Dv H' v d) (motive_2 := fun vs ds _ => DvAll H' vs ds) .non .bl .int .str (fun {a xs ds} e r ih => .lst (h1 _ _ e) ih) (fun {a xs ds} e r ih => .tup (h2 _ _ e) ih) .nil (fun _ _ a b => .cons a b) h
theorem BySt.monoI {H H' : Hp} {p C dx d : Addr} {fs : List (Str × V)} {rs : List Rule} (e : H p = some (.ins C dx fs)) (k : Kx p H H') (b : BySt H d rs) : BySt H' d rs := by
  obtain ⟨kvs, ed, h⟩ := b
  refine ⟨kvs, k _ _ (ne_of ed e (by intro z; cases z)) ed, fun q => ?_⟩
  rcases h q with h | ⟨l, h1, h2⟩
  · exact .inl h
  · exact .inr ⟨l, h1, h2.monoI e k⟩
theorem ndAt_ne {P : Program} {w : World} {H : Hp} {p C dx a : Addr} {fs : List (Str × V)} {ks : List NestedKey} (n : NdAt P w H a ks) (e : H p = some (.ins C dx fs)) : a ≠ p := by
  obtain ⟨xs, ea, _⟩ := n
  exact ne_of ea e (by intro z; cases z)
theorem RelD.monoI {P : Program} {w : World} {H H' : Hp} {p C dx d : Addr} {fs : List (Str × V)} {rels : List Rl} (e : H p = some (.ins C dx fs)) (k : Kx p H H') (b : RelD P w H d rels) : RelD P w H' d rels := by
  obtain ⟨kvs, ed, h⟩ := b
  refine ⟨kvs, k _ _ (ne_of ed e (by intro z; cases z)) ed, fun r hr => ?_⟩
  obtain ⟨a, ks, h1, h2, h3⟩ := h r hr
  exact ⟨a, ks, h1, h2.mono (k.tups e (by intro ys z; cases z)) (fun o eo => k _ _ (ndAt_ne h2 e) eo), h3⟩
theorem PlK.monoI {P : Program} {w : World} {H H' : Hp} {p C dx : Addr} {fs : List (Str × V)} {m : Mach} {rels : List Rl} {dr de : Addr} (e : H p = some (.ins C dx fs)) (k : Kx p H H') (b : PlK P w H m rels dr de) : PlK P w H' m rels dr de := ⟨b.by_.monoI e k, b.rl.monoI e k⟩
variable {P : Program} {w : World} {K : PySem.W.Frag} {mg : Str → Option Value} {base : Heap}
def spPlInit (P : Program) (w : World) (K : PySem.W.Frag) : Sp := fun vs H Q _ => ∃ (p dx s : Addr) (x : V) (m : Mach) (n : Nat) (rels : List Rl), vs = [.ref p, x, .ref s] ∧ H p = some (.ins (He.ga K "Place") dx []) ∧ Dv H x (machD m) ∧ MachOk m ∧ m.ts = [] ∧ StrAt K H s n rels ∧
  (rels.map Rl.z).Nodup ∧ rels.length ≤ 6 ∧ (∀ r ∈ rels, r.ks.length < 64) ∧ ∀ H' dr de, Kx p H H' → PlK P w H' m rels dr de → PlAt K H' p n dr de (0, zeros m.h) → Q .non H'
theorem sc_Place_init : FnScope ["self", "machine", "structure", "name", "_", "rows", "row"] ["self", "machine", "structure"] (defScope s_Place_init) := ⟨rfl, rfl, rfl, by decide +kernel, rfl, by decide +kernel, by decide +kernel⟩
theorem d_Place_init (T : Txt w K mg) : Def P w K mg base CX0 3 ("Place", some "__init__") ["self", "machine", "structure"] (spPlInit P w K) := by
  refine Def.of0 (k := 2) T.f_Place_init sc_Place_init (fun _ _ _ _ _ _ us hl => match us, hl with | [_, _, _], _ => rfl) (fun vs H Q E h => ?_) (fun cdv A outer s H vs Q E hr h => ?_)
  · obtain ⟨p, dx, s, x, m, n, rels, rfl, _⟩ := h
    rfl
  · obtain ⟨p, dx, sa, x, m, n, rels, rfl, hp, hm, ok, ht, hs, nd, h6, few, q⟩ := h
    refine ⟨_, ((pss_cons (ps_fld (pv 0) (pe_fld (pv 2) rfl) rfl)
       (pss_cons (ps_fld (pv 0) (pe_f (d_by_state T) (hr.mono (by decide)) T.g_by_state pass0 (pa_cons (pv 1) pa_nil)) rfl)
       (pss_cons (ps_fld (pv 0) pe_dnewK rfl)
       (pss_cons (ps_for PassesOwn.never rfl (pi_list (pe_fld (pv 2) rfl)) (pg_tup rfl (pgs_cons (pg_name (i := 3) sc_Place_init.nd rfl (Or.inl rfl)) (pgs_cons (pg_name (i := 4) sc_Place_init.nd rfl (Or.inl rfl)) (pgs_cons (pg_name (i := 5) sc_Place_init.nd rfl (Or.inl rfl)) pgs_nil))))
       (pss_one (ps_dput (hu_of hr) (pe_fld (pv 0) rfl) (pv 3) (pe_dcN hr.units (own := [("row", 6)]) (g := (gName 6)) (by rfl) sc_Place_init.nd (pi_tup (pv 5)) (blkOk_by (own := [("row", 6)]) (N := ["self", "machine", "structure", "name", "_", "rows", "row"]) (sc := defScope s_Place_init) (by decide +kernel)) (fun _ _ _ _ _ => (pg_name (i := 6) sc_Place_init.nd rfl (Or.inl rfl) (Or.inr rfl))) (fun _ _ _ _ _ => pts_nil) (fun _ _ _ _ _ => (pv 6)) (fun _ _ _ _ _ => pe_bl)) rfl)))
       (pss_cons (ps_fld (pv 0) pe_int rfl)
       (pss_cons (ps_fld (pv 0) (pe_lc (own := [("_", 4)]) (g := (gName 4)) (by rfl) sc_Place_init.nd (pi_range1 (by rfl) T.b_range (pa_cons (pe_ix ix_tup (pv 1) pe_int (fun _ _ => rfl)) pa_nil)) (blkOk_by (own := [("_", 4)]) (N := ["self", "machine", "structure", "name", "_", "rows", "row"]) (sc := defScope s_Place_init) (by decide +kernel)) (fun _ _ _ _ _ => (pg_name (i := 4) sc_Place_init.nd rfl (Or.inl rfl) (Or.inr rfl))) (fun _ _ _ _ _ => pts_nil) (fun _ _ _ _ _ => pe_int)) rfl)
       (pss_one (ps_fld (pv 0) (pe_lc (own := [("_", 4)]) (g := (gName 4)) (by rfl) sc_Place_init.nd (pi_tup (pe_ix ix_tup (pv 1) pe_int (fun _ _ => rfl))) (blkOk_by (own := [("_", 4)]) (N := ["self", "machine", "structure", "name", "_", "rows", "row"]) (sc := defScope s_Place_init) (by decide +kernel)) (fun _ _ _ _ _ => (pg_name (i := 4) sc_Place_init.nd rfl (Or.inl rfl) (Or.inr rfl))) (fun _ _ _ _ _ => pts_nil) (fun _ _ _ _ _ => pe_dnewK)) rfl))))))))), ?_⟩
    obtain ⟨a, c, dd, ys, rfl, e1, e2, e3, q3⟩ := mach_inv hm
    obtain ⟨sx, l, rs, f1, f2, f3⟩ := hs
    have := ok.h
    refine ⟨_, rfl, sa, _, sx, _, _, rfl, f1, T.c_Structure, T.n_Structure_size, strF_size _ _, _, rfl, p, _, dx, _, rfl, hp, T.c_Place, T.n_Place_size, by show 0 < 1000; decide, ?_⟩
    have k1 : Kx p H (upd H p (.ins (He.ga K "Place") dx (putF "size" (vInt n) []))) := .put
    have p1 : (upd H p (.ins (He.ga K "Place") dx (putF "size" (vInt n) []))) p = some (.ins (He.ga K "Place") dx [("size", vInt n)]) := upd_same
    generalize upd H p (.ins (He.ga K "Place") dx (putF "size" (vInt n) [])) = H1 at k1 p1 ⊢
    refine ⟨_, rfl, _, m, rfl, hm.monoI hp k1, ok.nrs, fun H2 dr s2 b2 => ?_⟩
    have p2 := s2 _ _ p1
    refine ⟨_, rfl, p, _, dx, _, rfl, p2, T.c_Place, T.n_Place_rules, by show 1 < 1000; decide, ?_⟩
    rw [pl_put1]
    have k3 : Kx p H (upd H2 p (.ins (He.ga K "Place") dx [("size", vInt n), ("rules", .ref dr)])) := k1.trans ((Kx.of s2).trans .put)
    have b3 := b2.monoI (H' := upd H2 p (.ins (He.ga K "Place") dx [("size", vInt n), ("rules", .ref dr)])) p2 .put
    have p3 : (upd H2 p (.ins (He.ga K "Place") dx [("size", vInt n), ("rules", .ref dr)])) p = some (.ins (He.ga K "Place") dx [("size", vInt n), ("rules", .ref dr)]) := upd_same
    generalize upd H2 p (.ins (He.ga K "Place") dx [("size", vInt n), ("rules", .ref dr)]) = H3 at k3 b3 p3 ⊢
    intro de nde
    have s4 := same_upd (o := .dK []) nde
    have p4 := s4 _ _ p3
    refine ⟨_, rfl, p, _, dx, _, rfl, p4, T.c_Place, T.n_Place_relations, by show 2 < 1000; decide, ?_⟩
    rw [pl_put2]
    have k5 : Kx p H (upd (upd H3 de (.dK [])) p (.ins (He.ga K "Place") dx [("size", vInt n), ("rules", .ref dr), ("relations", .ref de)])) := k3.trans ((Kx.of s4).trans .put)
    have b5 := b3.monoI (H' := upd (upd H3 de (.dK [])) p (.ins (He.ga K "Place") dx [("size", vInt n), ("rules", .ref dr), ("relations", .ref de)])) p3 ((Kx.of s4).trans .put)
    have npd : de ≠ p := (ne_of_none p3 nde).symm
    have d5 : (upd (upd H3 de (.dK [])) p (.ins (He.ga K "Place") dx [("size", vInt n), ("rules", .ref dr), ("relations", .ref de)])) de = some (.dK []) := (upd_ne npd).trans upd_same
    have p5 : (upd (upd H3 de (.dK [])) p (.ins (He.ga K "Place") dx [("size", vInt n), ("rules", .ref dr), ("relations", .ref de)])) p = some (.ins (He.ga K "Place") dx [("size", vInt n), ("rules", .ref dr), ("relations", .ref de)]) := upd_same
    generalize upd (upd H3 de (.dK [])) p (.ins (He.ga K "Place") dx [("size", vInt n), ("rules", .ref dr), ("relations", .ref de)]) = H5 at k5 b5 d5 p5 ⊢
    have nl : l ≠ p := ne_of f2 hp (by intro z; cases z)
    have nsp : sa ≠ p := fun z => by
      rw [z, hp] at f1
      injection f1 with f1
      injection f1 with _ _ h3
      unfold strF at h3
      cases h3
    have f1' := k5 _ _ nsp f1
    have f2' := k5 _ _ nl f2
    have tp5 := k5.tups hp (by intro ys z; cases z)
    have hl := paired_len f3
    refine ⟨_, rfl, sa, _, sx, _, _, rfl, f1', T.c_Structure, T.n_Structure_relations, strF_rels _ _, l, rfl, ⟨_, SqL.of f2'⟩, for_list (K := K) (a := l) (xs := rs) (fun i σ H' => Kx de H5 H' ∧
      (∃ kvs, H' de = some (.dK kvs) ∧ kvs.length ≤ i ∧ ∀ r ∈ rels.take i, ∃ a ks, valV kvs (.inr r.z.s) = some (.ref a) ∧ NdAt P w H' a ks ∧ ∀ k, rowK k ∈ ks ↔ k ∈ r.ks) ∧
      ∃ u v w', σ = [some (.ref p), some (.ref a), some (.ref sa), u, v, w', none]) ⟨.refl, ⟨[], d5, Nat.le_refl _, fun r hr => by rw [List.take_zero] at hr; cases hr⟩, _, _, _, rfl⟩ ?_ ?_ ?_⟩
    · rintro i σ H' hi ⟨k6, _⟩
      exact SqL.of (k6 _ _ (ne_of f2' d5 (by intro z; cases z)) f2')
    · rintro i x σ H' hx ⟨k6, ⟨kvs, ed, lk, hr⟩, u, v, w', rfl⟩
      obtain ⟨r, hr1, ra, rb, as, rfl, g1, g2, g3⟩ := paired_get f3 hx
      have tp6 : TupS H H' := tp5.trans (k6.tups d5 (by intro ys z; cases z))
      have g1 := tp6 _ _ g1
      have g2 := tp6 _ _ g2
      have g3 := refsOf_mono tp6 g3
      have hin : i < rels.length := (List.getElem?_eq_some_iff.mp hr1).1
      have hfew := few r (List.mem_of_getElem? hr1)
      have lenas : (as.map V.ref).length = r.ks.length := by
        rw [List.length_map, ← paired_len g3, List.length_map]
      refine ⟨ra, _, rfl, SqT.of g1, rfl, _, _, rfl, _, _, rfl, _, _, rfl, rfl, ?_⟩
      refine ⟨_, rfl, rb, rfl, ⟨_, SqT.of g2⟩, fun D nD n0 hn0 => dcN_it (walk_tup (xs := as.map V.ref)) (fun j H2 => Same H' H2 ∧ ∃ ks, NdAt P w H2 D ks ∧ (∀ k, rowK k ∈ ks ↔ k ∈ r.ks.take j) ∧ (∀ k ∈ ks, ∃ y, k = rowK y) ∧ ks.length ≤ j) ⟨same_upd nD, [], hn0, (fun k => by simp), (fun k hk => nomatch hk), Nat.le_refl _⟩ (fun j H2 _ hh => SqT.of (hh.1 _ _ g2)) ?_ ?_⟩
      · rintro j y H2 H3' hj ⟨s7, ks, hks, mem, rw', lks⟩ ⟨rfl, hy⟩
        rw [List.getElem?_map] at hy
        cases ha : as[j]? with
        | none => rw [ha] at hy; cases hy
        | some b =>
          rw [ha] at hy
          cases hy
          have hj2 : j < r.ks.length := by rw [← lenas]; exact hj
          obtain ⟨kr, hkr⟩ : ∃ kr, r.ks[j]? = some kr := ⟨_, List.getElem?_eq_getElem hj2⟩
          have hkb : KyT H' (rowK kr) (.ref b) := by
            obtain ⟨b2, hb2, kb⟩ := paired_get g3 (i := j) (a := rowK kr) (by rw [List.getElem?_map, hkr]; rfl)
            rw [ha] at hb2
            cases hb2
            exact kb
          refine ⟨rfl, _, rfl, rowK kr, ks, ⟨_, rfl⟩, hkb.mono (Same.tupS s7), rowK_depth kr, hks, by rw [sizeLine_eq]; omega, fun n' hn' => ⟨fun b' o e => ?_, _, hn', fun k => ?_, fun k hk => ?_, ?_⟩⟩
          · rw [upd_ne (ne_of_none e nD)]
            exact s7 _ _ e
          · rw [List.take_add_one, hkr]
            have key : rowK k ∈ ks ∨ k = kr ↔ k ∈ r.ks.take j ∨ k = kr := by rw [mem]
            by_cases hin' : rowK kr ∈ ks
            · rw [if_pos hin']
              have : kr ∈ r.ks.take j := (mem kr).mp hin'
              simp only [Option.toList_some, List.mem_append, List.mem_singleton]
              constructor
              · intro h
                exact .inl ((mem k).mp h)
              · rintro (h | rfl)
                · exact (mem k).mpr h
                · exact hin'
            · rw [if_neg hin']
              simp only [Option.toList_some, List.mem_append, List.mem_singleton]
              constructor
              · rintro (h | h)
                · exact .inl ((mem k).mp h)
                · exact .inr (rowK_inj h)
              · rintro (h | rfl)
                · exact .inl ((mem k).mpr h)
                · exact .inr rfl
          · by_cases hin' : rowK kr ∈ ks
            · rw [if_pos hin'] at hk
              exact rw' k hk
            · rw [if_neg hin', List.mem_append] at hk
              rcases hk with hk | hk
              · exact rw' k hk
              · exact ⟨kr, List.mem_singleton.mp hk⟩
          · split
            · omega
            · rw [List.length_append, List.length_singleton]
              omega
      · rintro H2 ⟨s7, ks, hks, mem, _, lks⟩
        rw [lenas, List.take_length] at mem
        have p7 : H2 p = _ := s7 _ _ (k6 _ _ npd.symm p5)
        have d7 := s7 _ _ ed
        refine ⟨_, rfl, p, _, dx, _, _, rfl, p7, T.c_Place, T.n_Place_relations, pl3_rel, _, rfl, de, _, rfl, DPut.k (k := .inr r.z.s) d7 (by rw [sizeLine_eq]; omega), ?_⟩
        have tp8 : TupS H2 (upd H2 de (.dK (putK kvs (.inr r.z.s) (.ref D)))) := tupS_upd (fun ys e => by rw [d7] at e; cases e)
        have k8 : Kx de H2 (upd H2 de (.dK (putK kvs (.inr r.z.s) (.ref D)))) := .put
        have nde' : ∀ {a ks}, NdAt P w H2 a ks → a ≠ de := fun {a ks} h => by
          obtain ⟨xs, ea, _⟩ := h
          exact ne_of ea d7 (by intro z; cases z)
        refine ⟨k6.trans ((Kx.of s7).trans k8), ⟨_, upd_same, ?_, fun r' hr' => ?_⟩, _, _, _, rfl⟩
        · have := length_putK kvs (.inr r.z.s) (.ref D)
          omega
        · rw [List.take_add_one, hr1, List.mem_append] at hr'
          rcases hr' with hr' | hr'
          · obtain ⟨a', ks', h1, h2, h3⟩ := hr r' hr'
            have hz : r'.z ≠ r.z := fun e => by
              obtain ⟨j, hj⟩ := List.mem_iff_getElem?.mp hr'
              rw [List.getElem?_take] at hj
              split at hj
              · rename_i hlt
                have h5 := List.getElem?_eq_some_iff.mp hj
                have h6 := List.getElem?_eq_some_iff.mp hr1
                have := List.pairwise_iff_getElem.mp nd j i (by rw [List.length_map]; exact h5.1) (by rw [List.length_map]; exact h6.1) hlt
                rw [List.getElem_map, List.getElem_map, h5.2, h6.2] at this
                exact this e
              · cases hj
            refine ⟨a', ks', ?_, ?_, h3⟩
            · rw [valV_put, if_neg (fun z => hz (nm_inj (Sum.inr.inj z)))]
              exact h1
            · have h2' := h2.mono (Same.tupS s7) (fun o e => s7 _ _ e)
              exact h2'.mono tp8 (fun o e => k8 _ _ (nde' h2') e)
          · rcases List.mem_singleton.mp hr' with rfl
            refine ⟨D, ks, ?_, hks.mono tp8 (fun o e => k8 _ _ (nde' hks) e), mem⟩
            rw [valV_put, if_pos rfl]
    rintro σ H6 ⟨k6, ⟨kvs, ed, lk, hr⟩, u, v, w', rfl⟩
    rw [hl, List.take_length] at hr
    have p6 := k6 _ _ npd.symm p5
    have rl6 : RelD P w H6 de rels := ⟨kvs, ed, hr⟩
    have nde0 : H de = none := by
      cases hde : H de with
      | none => rfl
      | some o => rw [k3 _ _ npd hde] at nde; cases nde
    have k6' : Kx p H H6 := fun b o nb e => k6 _ _ (ne_of_none e nde0) (k5 b o nb e)
    have plk : PlK P w H6 m rels dr de := ⟨by
      obtain ⟨kv, edr, hh⟩ := b5
      have nn : dr ≠ de := by
        intro z
        obtain ⟨kv3, edr3, _⟩ := b3
        rw [z, nde] at edr3
        cases edr3
      refine ⟨kv, k6 _ _ nn edr, fun qq => ?_⟩
      rcases hh qq with hh | ⟨l2, g1, g2⟩
      · exact .inl hh
      · obtain ⟨_, xs, ee, el, er⟩ := g2.lst_inv
        cases ee
        exact .inr ⟨l2, g1, .lst (k6 _ _ (ne_of el d5 (by intro z; cases z)) el) (er.monoT (k6.tups d5 (by intro ys z; cases z)) (noL_all noL_ir _))⟩, rl6⟩
    clear b5 b3 b2
    generalize hX : ([some (.ref p), some (.ref a), some (.ref sa), u, v, w', none] : L2.St) = σ
    subst hX
    refine ⟨_, rfl, p, _, dx, _, rfl, p6, T.c_Place, T.n_Place_state, by show 3 < 1000; decide, ?_⟩
    rw [pl_put3]
    have plk7 := plk.monoI (H' := upd H6 p (.ins (He.ga K "Place") dx [("size", vInt n), ("rules", .ref dr), ("relations", .ref de), ("state", .int 0)])) p6 .put
    have k7 : Kx p H (upd H6 p (.ins (He.ga K "Place") dx [("size", vInt n), ("rules", .ref dr), ("relations", .ref de), ("state", .int 0)])) := k6'.trans .put
    have p7 : (upd H6 p (.ins (He.ga K "Place") dx [("size", vInt n), ("rules", .ref dr), ("relations", .ref de), ("state", .int 0)])) p = some (.ins (He.ga K "Place") dx [("size", vInt n), ("rules", .ref dr), ("relations", .ref de), ("state", .int 0)]) := upd_same
    generalize upd H6 p (.ins (He.ga K "Place") dx [("size", vInt n), ("rules", .ref dr), ("relations", .ref de), ("state", .int 0)]) = H7 at plk7 k7 p7 ⊢
    have nap : a ≠ p := ne_of e1 hp (by intro z; cases z)
    have ncp : c ≠ p := ne_of e2 hp (by intro z; cases z)
    refine ⟨_, rfl, _, _, (0 : Int), _, rfl, rfl, SqT.of (k7 _ _ nap e1), rfl, m.h, rfl, by omega, by omega, fun D nD => lc_range (lo := 0) (n := m.h) (fun i H2 => Same H7 H2 ∧ H2 D = some (.lst ((zeros i).map V.int))) ⟨same_upd nD, upd_same⟩ ?_ ?_⟩
    · rintro i H2 hi ⟨s2, eD⟩
      refine ⟨rfl, _, eD, ?_, fun b o e => ?_, ?_⟩
      · rw [List.length_map]
        unfold zeros
        rw [List.length_replicate, sizeLine_eq]
        omega
      · rw [upd_ne (ne_of_none e nD)]
        exact s2 _ _ e
      · rw [upd_same]
        unfold zeros
        rw [List.replicate_succ', List.map_append]
        rfl
    rintro H8 ⟨s8, eD⟩
    have p8 := s8 _ _ p7
    refine ⟨_, rfl, p, _, dx, _, rfl, p8, T.c_Place, T.n_Place_heads, by show 4 < 1000; decide, ?_⟩
    rw [pl_put4]
    have plk9 := (plk7.monoI p7 (.of s8)).monoI (H' := upd H8 p (.ins (He.ga K "Place") dx [("size", vInt n), ("rules", .ref dr), ("relations", .ref de), ("state", .int 0), ("heads", .ref D)])) p8 .put
    have k9 : Kx p H (upd H8 p (.ins (He.ga K "Place") dx [("size", vInt n), ("rules", .ref dr), ("relations", .ref de), ("state", .int 0), ("heads", .ref D)])) := k7.trans ((Kx.of s8).trans .put)
    have nDp : D ≠ p := ne_of eD p8 (by intro z; cases z)
    have eD9 : (upd H8 p (.ins (He.ga K "Place") dx [("size", vInt n), ("rules", .ref dr), ("relations", .ref de), ("state", .int 0), ("heads", .ref D)])) D = _ := (upd_ne nDp).trans eD
    have p9 : (upd H8 p (.ins (He.ga K "Place") dx [("size", vInt n), ("rules", .ref dr), ("relations", .ref de), ("state", .int 0), ("heads", .ref D)])) p = some (.ins (He.ga K "Place") dx [("size", vInt n), ("rules", .ref dr), ("relations", .ref de), ("state", .int 0), ("heads", .ref D)]) := upd_same
    generalize upd H8 p (.ins (He.ga K "Place") dx [("size", vInt n), ("rules", .ref dr), ("relations", .ref de), ("state", .int 0), ("heads", .ref D)]) = H9 at plk9 k9 eD9 p9 ⊢
    refine ⟨_, rfl, _, _, (1 : Int), _, rfl, rfl, SqT.of (k9 _ _ nap e1), rfl, c, rfl, ⟨_, SqT.of (k9 _ _ ncp e2)⟩, fun D2 nD2 => lc_tup (K := K) (a := c) (xs := m.ts.map vInt) (fun i H4 => H4 = upd H9 D2 (.lst [])) rfl ?_ ?_ ?_⟩
    · rintro i H4 hi rfl
      exact SqT.of (same_upd nD2 _ _ (k9 _ _ ncp e2))
    · rintro i y H4 hy
      rw [ht] at hy
      cases hy
    rintro H4 rfl
    have s10 := same_upd (o := .lst []) nD2
    have p10 := s10 _ _ p9
    refine ⟨_, rfl, p, _, dx, _, rfl, p10, T.c_Place, T.n_Place_marks, by show 5 < 1000; decide, ?_⟩
    rw [pl_put5]
    have nD2p : D2 ≠ p := (ne_of_none p9 nD2).symm
    refine q _ dr de (k9.trans ((Kx.of s10).trans .put)) ((plk9.monoI p9 (.of s10)).monoI p10 .put) ⟨dx, D, D2, upd_same, ?_, ?_⟩
    · rw [upd_ne nDp]
      exact s10 _ _ eD9
    · rw [upd_ne nD2p]
      exact upd_same
end K54
set_option Elab.async false
set_option linter.all false
set_option maxRecDepth 100000
set_option maxHeartbeats 4000000
set_option pp.maxSteps 800
namespace K54
open PySem PySem.Spec PyProof.Rows L2
def tNo : TE := fun _ _ _ => False
theorem pe_no {X : Cx} {e : Expr} : PE X e tNo := ⟨fun _ _ _ _ _ _ h => h.elim⟩
theorem kyTs_nums_inv {H : Hp} : ∀ {ns : List Int} {vs : List V}, KyTs H (ns.map .num) vs → vs = ns.map V.int
  | [], _, h => by
    cases h
    rfl
  | n :: ns, _, h => by
    cases h with
    | cons a b =>
      cases a
      rw [kyTs_nums_inv b]
      rfl
theorem kyTs_nums {H : Hp} : ∀ (ns : List Int), KyTs H (ns.map .num) (ns.map V.int)
  | [] => .nil
  | n :: ns => .cons (.num n) (kyTs_nums ns)
theorem cf_inv {H : Hp} {c : Cf} {v : V} (h : KyT H (nk c) v) : ∃ a h1 m1, v = .ref a ∧ H a = some (.tup [vInt c.1, .ref h1, .ref m1]) ∧ H h1 = some (.tup (c.2.map V.int)) ∧ H m1 = some (.tup []) := by
  unfold nk at h
  cases h with
  | tup e r =>
    cases r with
    | cons a r =>
      cases a
      cases r with
      | cons b r =>
        cases b with
        | tup e2 r2 =>
          rw [kyTs_nums_inv r2] at e2
          cases r with
          | cons d r =>
            cases d with
            | tup e3 r3 =>
              cases r3
              cases r
              exact ⟨_, _, _, rfl, e, e2, e3⟩
theorem cf_mk {H : Hp} {c : Cf} {a h1 m1 : Addr} (e : H a = some (.tup [vInt c.1, .ref h1, .ref m1])) (e1 : H h1 = some (.tup (c.2.map V.int))) (e2 : H m1 = some (.tup [])) : KyT H (nk c) (.ref a) :=
  .tup e (.cons (.num _) (.cons (.tup e1 (kyTs_nums _)) (.cons (.tup e2 .nil) .nil)))
theorem dec_bl {a b : Bool} : decide (V.bl a = V.bl b) = (a == b) := by
  cases a <;> cases b <;> decide
variable {P : Program} {w : World} {K : PySem.W.Frag} {mg : Str → Option Value} {base : Heap}
def Pl0 (K : PySem.W.Frag) (H : Hp) (p : Addr) (n : Nat) (dr de : Addr) : Prop := ∃ dx st hd mk, H p = some (.ins (He.ga K "Place") dx (plF (vInt n) (.ref dr) (.ref de) st hd mk))
theorem PlAt.p0 {K : PySem.W.Frag} {H : Hp} {p : Addr} {n : Nat} {dr de : Addr} {c : Cf} (h : PlAt K H p n dr de c) : Pl0 K H p n dr de :=
  let ⟨dx, hd, mk, e, _⟩ := h
  ⟨dx, _, _, _, e⟩
def spLoad (K : PySem.W.Frag) : Sp := fun vs H Q _ => ∃ (p : Addr) (x : V) (n : Nat) (dr de : Addr) (c : Cf), vs = [.ref p, x] ∧ Pl0 K H p n dr de ∧ KyT H (nk c) x ∧ ∀ H', Kx p H H' → PlAt K H' p n dr de c → Q .non H'
theorem sc_Place_load : FnScope ["self", "configuration", "cells", "cell"] ["self", "configuration"] (defScope s_Place_load) := ⟨rfl, rfl, rfl, by decide +kernel, rfl, by decide +kernel, by decide +kernel⟩
theorem d_Place_load (T : Txt w K mg) : Def P w K mg base CX0 1 ("Place", some "load") ["self", "configuration"] (spLoad K) := by
  refine Def.of0 (k := 0) T.f_Place_load sc_Place_load (fun _ _ _ _ _ _ us hl => match us, hl with | [_, _], _ => rfl) (fun vs H Q E h => ?_) (fun cdv A outer s H vs Q E hr h => ?_)
  · obtain ⟨p, x, n, dr, de, c, rfl, _⟩ := h
    rfl
  · obtain ⟨p, x, n, dr, de, c, rfl, ⟨dx, ost, hd, mk, p0⟩, hx, q⟩ := h
    refine ⟨_, ((pss_cons (ps_fld (pv 0) (pe_ix ix_tup (pv 1) pe_int (fun _ _ => rfl)) rfl)
       (pss_cons (ps_fld (pv 0) (pe_ty call_list_of T.b_list (pa_cons (pe_ix ix_tup (pv 1) pe_int (fun _ _ => rfl)) pa_nil)) rfl)
       (pss_one (ps_fld (pv 0) (pe_lc (own := [("cells", 2)]) (g := (gName 2)) (by rfl) sc_Place_load.nd (pi_tup (pe_ix ix_tup (pv 1) pe_int (fun _ _ => rfl))) (blkOk_by (own := [("cells", 2)]) (N := ["self", "configuration", "cells", "cell"]) (sc := defScope s_Place_load) (by decide +kernel)) (fun _ _ _ _ _ => (pg_name (i := 2) sc_Place_load.nd rfl (Or.inl rfl) (Or.inr rfl))) (fun _ _ _ _ _ => pts_nil) (fun _ _ _ _ _ => pe_no)) rfl))))), ?_⟩
    obtain ⟨a, h1, m1, rfl, e1, e2, e3⟩ := cf_inv hx
    have nap : a ≠ p := ne_of e1 p0 (by intro z; cases z)
    have n1p : h1 ≠ p := ne_of e2 p0 (by intro z; cases z)
    have n2p : m1 ≠ p := ne_of e3 p0 (by intro z; cases z)
    refine ⟨_, rfl, _, _, (0 : Int), _, rfl, rfl, SqT.of e1, rfl, _, rfl, p, _, dx, _, rfl, p0, T.c_Place, T.n_Place_state, by show 6 < 1000; decide, ?_⟩
    rw [plF_put_state]
    have k1 : Kx p H (upd H p (.ins (He.ga K "Place") dx (plF (vInt n) (.ref dr) (.ref de) (vInt c.1) hd mk))) := .put
    have p1 : (upd H p (.ins (He.ga K "Place") dx (plF (vInt n) (.ref dr) (.ref de) (vInt c.1) hd mk))) p = _ := upd_same
    generalize upd H p (.ins (He.ga K "Place") dx (plF (vInt n) (.ref dr) (.ref de) (vInt c.1) hd mk)) = H1 at k1 p1 ⊢
    refine ⟨_, rfl, _, _, (1 : Int), _, rfl, rfl, SqT.of (k1 _ _ nap e1), rfl, h1, _, rfl, .inr (SqT.of (k1 _ _ n1p e2)), fun l nl => ?_⟩
    have s2 := same_upd (o := .lst (c.2.map V.int)) nl
    have p2 := s2 _ _ p1
    refine ⟨_, rfl, p, _, dx, _, rfl, p2, T.c_Place, T.n_Place_heads, by show 6 < 1000; decide, ?_⟩
    rw [plF_put_heads]
    have nlp : l ≠ p := (ne_of_none p1 nl).symm
    have k3 : Kx p H (upd (upd H1 l (.lst (c.2.map V.int))) p (.ins (He.ga K "Place") dx (plF (vInt n) (.ref dr) (.ref de) (vInt c.1) (.ref l) mk))) := k1.trans ((Kx.of s2).trans .put)
    have p3 : (upd (upd H1 l (.lst (c.2.map V.int))) p (.ins (He.ga K "Place") dx (plF (vInt n) (.ref dr) (.ref de) (vInt c.1) (.ref l) mk))) p = _ := upd_same
    have l3 : (upd (upd H1 l (.lst (c.2.map V.int))) p (.ins (He.ga K "Place") dx (plF (vInt n) (.ref dr) (.ref de) (vInt c.1) (.ref l) mk))) l = _ := (upd_ne nlp).trans upd_same
    generalize upd (upd H1 l (.lst (c.2.map V.int))) p (.ins (He.ga K "Place") dx (plF (vInt n) (.ref dr) (.ref de) (vInt c.1) (.ref l) mk)) = H3 at k3 p3 l3 ⊢
    refine ⟨_, rfl, _, _, (2 : Int), _, rfl, rfl, SqT.of (k3 _ _ nap e1), rfl, m1, rfl, ⟨_, SqT.of (k3 _ _ n2p e3)⟩, fun D nD => lc_tup (K := K) (a := m1) (xs := []) (fun i H4 => H4 = upd H3 D (.lst [])) rfl ?_ ?_ ?_⟩
    · rintro i H4 hi rfl
      exact SqT.of (same_upd nD _ _ (k3 _ _ n2p e3))
    · rintro i y H4 hy
      rw [List.getElem?_nil] at hy
      cases hy
    rintro H4 rfl
    have s4 := same_upd (o := .lst []) nD
    have p4 := s4 _ _ p3
    refine ⟨_, rfl, p, _, dx, _, rfl, p4, T.c_Place, T.n_Place_marks, by show 6 < 1000; decide, ?_⟩
    rw [plF_put_marks]
    have nDp : D ≠ p := (ne_of_none p3 nD).symm
    refine q _ (k3.trans ((Kx.of s4).trans .put)) ⟨dx, l, D, upd_same, ?_, ?_⟩
    · rw [upd_ne nlp]
      exact s4 _ _ l3
    · rw [upd_ne nDp]
      exact upd_same
end K54
set_option Elab.async false
set_option linter.all false
set_option maxRecDepth 100000
set_option maxHeartbeats 4000000
set_option pp.maxSteps 800
namespace K54
open PySem PySem.Spec PyProof.Rows L2
variable {P : Program} {w : World} {K : PySem.W.Frag} {mg : Str → Option Value} {base : Heap}
theorem at_take {hs : List Int} {is : List Nat} {j i : Nat} (h : is[j]? = some i) : (is.take (j + 1)).map (at' hs) = (is.take j).map (at' hs) ++ [at' hs i] := by
  rw [List.take_add_one, h, List.map_append]
  rfl
def spTrue (P : Program) (w : World) (K : PySem.W.Frag) : Sp := fun vs H Q _ => ∃ (p : Addr) (x : V) (m : Mach) (n : Nat) (rels : List Rl) (dr de : Addr) (c : Cf) (cd : Cond), vs = [.ref p, x] ∧ PlAt K H p n dr de c ∧ PlK P w H m rels dr de ∧ Dv H x (condD cd) ∧
  condOk m.h cd ∧ c.2.length = m.h ∧ m.h ≤ 2 ∧ (∀ z is f, cd = .rel z is f → ∃ r ∈ rels, r.z = z) ∧ (rels.map Rl.z).Nodup ∧ ∀ H', Same H H' → Q (.bl (evalC n (relHas rels) c.2 cd)) H'
theorem relHas_at {rels : List Rl} {r : Rl} (nd : (rels.map Rl.z).Nodup) (h : r ∈ rels) (k : List Int) : relHas rels r.z k = decide (k ∈ r.ks) := by
  unfold relHas
  rw [Bool.eq_iff_iff, List.any_eq_true]
  constructor
  · rintro ⟨r', hr', e⟩
    rw [Bool.and_eq_true, decide_eq_true_eq, decide_eq_true_eq] at e
    have : r' = r := by
      obtain ⟨i, hi⟩ := List.mem_iff_getElem?.mp hr'
      obtain ⟨j, hj⟩ := List.mem_iff_getElem?.mp h
      have hi := List.getElem?_eq_some_iff.mp hi
      have hj := List.getElem?_eq_some_iff.mp hj
      rcases Nat.lt_trichotomy i j with l | l | l
      · have := List.pairwise_iff_getElem.mp nd i j (by rw [List.length_map]; exact hi.1) (by rw [List.length_map]; exact hj.1) l
        rw [List.getElem_map, List.getElem_map, hi.2, hj.2] at this
        exact absurd e.1 this
      · subst l
        rw [← hi.2, ← hj.2]
      · have := List.pairwise_iff_getElem.mp nd j i (by rw [List.length_map]; exact hj.1) (by rw [List.length_map]; exact hi.1) l
        rw [List.getElem_map, List.getElem_map, hi.2, hj.2] at this
        exact absurd e.1.symm this
    rw [this] at e
    exact decide_eq_true e.2
  · intro e
    exact ⟨r, h, by rw [decide_eq_true rfl, e]; rfl⟩
theorem sc_Place_true : FnScope ["self", "condition", "word", "heads", "head"] ["self", "condition"] (defScope s_Place_true) := ⟨rfl, rfl, rfl, by decide +kernel, rfl, by decide +kernel, by decide +kernel⟩
theorem d_Place_true (T : Txt w K mg) : Def P w K mg base CX0 1 ("Place", some "true") ["self", "condition"] (spTrue P w K) := by
  refine Def.of0 (k := 0) T.f_Place_true sc_Place_true (fun _ _ _ _ _ _ us hl => match us, hl with | [_, _], _ => rfl) (fun vs H Q E h => ?_) (fun cdv A outer s H vs Q E hr h => ?_)
  · obtain ⟨p, x, m, n, rels, dr, de, c, cd, rfl, _⟩ := h
    rfl
  · obtain ⟨p, x, m, n, rels, dr, de, c, cd, rfl, ⟨dx, hd, mk, p0, hh, _⟩, pk, hc, ok, hl, h2, fit, nd, q⟩ := h
    refine ⟨_, ((pss_cons (ps_set (i := 2) sc_Place_true.nd rfl (Or.inl rfl) (pe_ix ix_tup (pv 1) pe_int (fun _ _ => rfl)))
       (pss_cons (ps_set (i := 3) sc_Place_true.nd rfl (Or.inr rfl) (pe_fld (pv 0) rfl))
       (pss_cons (ps_if (pt_cmpR op_eq (pv 2) pe_str (nomark _))
       (pss_one (ps_ret (pe_cmpR op_eq (pe_cmpR (op_inN hr.units) (pe_ty call_tuple_of T.b_tuple (pa_cons (pe_lc (own := [("head", 4)]) (g := (gName 4)) (by rfl) sc_Place_true.nd (pi_tup (pe_ix ix_tup (pv 1) pe_int (fun _ _ => rfl))) (blkOk_by (own := [("head", 4)]) (N := ["self", "condition", "word", "heads", "head"]) (sc := defScope s_Place_true) (by decide +kernel)) (fun _ _ _ _ _ => (pg_name (i := 4) sc_Place_true.nd rfl (Or.inl rfl) (Or.inr rfl))) (fun _ _ _ _ _ => pts_nil) (fun _ _ _ _ _ => (pe_ix (ix_listK (K := K) rfl) (pv 3) (pv 4) (fun _ _ => rfl)))) pa_nil)) (pe_dget (hu_of hr) (pe_fld (pv 0) rfl) (pe_ix ix_tup (pv 1) pe_int (fun _ _ => rfl)) (fun _ _ => rfl)) rfl) (pe_ix ix_tup (pv 1) pe_int (fun _ _ => rfl)) (nomark _))))
       pss_nil)
       (pss_cons (ps_if (pt_cmpR op_eq (pv 2) pe_str (nomark _))
       (pss_one (ps_ret (pe_cmpR op_eq (pe_cmpR (op_inN hr.units) (pe_ty call_tuple_of T.b_tuple (pa_cons (pe_lc (own := [("head", 4)]) (g := (gName 4)) (by rfl) sc_Place_true.nd (pi_tup (pe_ix ix_tup (pv 1) pe_int (fun _ _ => rfl))) (blkOk_by (own := [("head", 4)]) (N := ["self", "condition", "word", "heads", "head"]) (sc := defScope s_Place_true) (by decide +kernel)) (fun _ _ _ _ _ => (pg_name (i := 4) sc_Place_true.nd rfl (Or.inl rfl) (Or.inr rfl))) (fun _ _ _ _ _ => pts_nil) (fun _ _ _ _ _ => (pe_ix (ix_listK (K := K) rfl) (pv 3) (pv 4) (fun _ _ => rfl)))) pa_nil)) (pe_ix ix_list (pe_fld (pv 0) rfl) (pe_ix ix_tup (pv 1) pe_int (fun _ _ => rfl)) (fun _ _ => rfl)) rfl) (pe_ix ix_tup (pv 1) pe_int (fun _ _ => rfl)) (nomark _))))
       pss_nil)
       (pss_cons (ps_if (pt_cmpR op_eq (pv 2) pe_str (nomark _))
       (pss_one (ps_ret (pe_cmpR op_eq (pe_cmpR op_eq (pe_ix ix_list (pv 3) (pe_ix ix_tup (pv 1) pe_int (fun _ _ => rfl)) (fun _ _ => rfl)) (pe_op op_sub (pe_fld (pv 0) rfl) pe_int) (nomark _)) (pe_ix ix_tup (pv 1) pe_int (fun _ _ => rfl)) (nomark _))))
       pss_nil)
       (pss_cons (ps_if (pt_cmpR op_eq (pv 2) pe_str (nomark _))
       (pss_one (ps_ret (pe_cmpR op_eq (pe_cmpR op_eq (pe_ix ix_list (pv 3) (pe_ix ix_tup (pv 1) pe_int (fun _ _ => rfl)) (fun _ _ => rfl)) (pe_ix ix_list (pv 3) (pe_ix ix_tup (pv 1) pe_int (fun _ _ => rfl)) (fun _ _ => rfl)) (nomark _)) (pe_ix ix_tup (pv 1) pe_int (fun _ _ => rfl)) (nomark _))))
       pss_nil)
       (pss_one (ps_ret (pe_cmpR op_eq (pe_cmpR op_lt (pe_ix ix_list (pv 3) (pe_ix ix_tup (pv 1) pe_int (fun _ _ => rfl)) (fun _ _ => rfl)) (pe_ix ix_list (pv 3) (pe_ix ix_tup (pv 1) pe_int (fun _ _ => rfl)) (fun _ _ => rfl)) (nomark _)) (pe_ix ix_tup (pv 1) pe_int (fun _ _ => rfl)) (nomark _))))))))))), ?_⟩
    have ihd : ∀ {i : Nat}, i < m.h → (c.2.map V.int)[i]? = some (.int (at' c.2 i)) := fun {i} hi => by
      rw [List.getElem?_map, at_some (by rw [hl]; exact hi)]
      rfl
    cases cd with
    | rel z is f =>
      obtain ⟨a, b, rfl, e1, e2⟩ := cond_rel hc
      have hlen : is.length = z.ar := ok.1
      have hz2 : z.ar ≤ 2 := by cases z <;> decide
      refine ⟨_, rfl, _, _, (0 : Int), _, rfl, rfl, SqT.of e1, rfl, ?_⟩
      refine ⟨_, rfl, p, _, dx, _, _, rfl, p0, T.c_Place, T.n_Place_heads, plF_heads, ?_⟩
      refine ⟨_, rfl, rfl, _, rfl, iteTb (by decide +kernel) ?_⟩
      refine ⟨_, rfl, _, _, (2 : Int), _, rfl, rfl, SqT.of e1, rfl, b, rfl, ⟨_, SqT.of e2⟩, fun D nD => lc_tup (K := K) (a := b) (xs := is.map vInt) (fun j H2 => Same H H2 ∧ H2 D = some (.lst (((is.take j).map (at' c.2)).map V.int))) ⟨same_upd nD, upd_same⟩ ?_ ?_ ?_⟩
      · rintro j H2 hj ⟨s2, _⟩
        exact SqT.of (s2 _ _ e2)
      · rintro j y H2 hy ⟨s2, eD⟩
        rw [List.getElem?_map] at hy
        cases hk : is[j]? with
        | none => rw [hk] at hy; cases hy
        | some i =>
          rw [hk] at hy
          cases hy
          have hi := ok.2 i (List.mem_of_getElem? hk)
          have hjl := (List.getElem?_eq_some_iff.mp hk).1
          refine ⟨rfl, _, rfl, _, rfl, hd, _, _, _, rfl, rfl, SqL.of (s2 _ _ hh), atI_nat (ihd hi), _, eD, ?_, fun b' o e => ?_, ?_⟩
          · rw [List.length_map, List.length_map, List.length_take, sizeLine_eq]
            omega
          · rw [upd_ne (ne_of_none e nD)]
            exact s2 _ _ e
          · rw [at_take hk, List.map_append]
            exact upd_same
      rintro H2 ⟨s2, eD⟩
      rw [List.length_map, List.take_length] at eD
      refine ⟨D, _, rfl, .inl ⟨SqL.of eD, fun t nt => ?_⟩⟩
      have s3 := Same.tr s2 (same_upd (o := .tup ((is.map (at' c.2)).map V.int)) nt)
      have et : (upd H2 t (.tup ((is.map (at' c.2)).map V.int))) t = _ := upd_same
      generalize upd H2 t (.tup ((is.map (at' c.2)).map V.int)) = H3 at s3 et ⊢
      refine ⟨_, rfl, p, _, dx, _, _, rfl, s3 _ _ p0, T.c_Place, T.n_Place_relations, plF_relations, ?_⟩
      refine ⟨_, rfl, _, _, (1 : Int), _, rfl, rfl, SqT.of (s3 _ _ e1), rfl, ?_⟩
      obtain ⟨r, hr, rfl⟩ := fit z is f rfl
      obtain ⟨kvs, ed, hk⟩ := pk.rl
      obtain ⟨ra, ks, g1, g2, g3⟩ := hk r hr
      refine ⟨de, _, rfl, g1 ▸ DGet.k (k := .inr r.z.s) (s3 _ _ ed), ?_⟩
      refine ⟨ra, rowK (is.map (at' c.2)), ks, rfl, ⟨_, rfl⟩, .tup et (kyTs_nums _), rowK_depth _, g2.mono (Same.tupS s3) (fun o e => s3 _ _ e), ?_⟩
      refine ⟨_, rfl, _, _, (3 : Int), _, rfl, rfl, SqT.of (s3 _ _ e1), rfl, rfl, ?_⟩
      have q := q H3 s3
      unfold evalC at q
      simp only [relHas_at nd hr] at q
      rw [dec_bl]
      have e5 : (if false then !decide (rowK (is.map (at' c.2)) ∈ ks) else decide (rowK (is.map (at' c.2)) ∈ ks)) = decide (is.map (at' c.2) ∈ r.ks) := decide_eq_decide.mpr (g3 _)
      rw [e5]
      exact q
    | eq i j f =>
      obtain ⟨a, rfl, e1⟩ := cond_two hc
      refine ⟨_, rfl, _, _, (0 : Int), _, rfl, rfl, SqT.of e1, rfl, ?_⟩
      refine ⟨_, rfl, p, _, dx, _, _, rfl, p0, T.c_Place, T.n_Place_heads, plF_heads, ?_⟩
      refine ⟨_, rfl, rfl, _, rfl, iteFb (by decide +kernel) ?_⟩
      refine ⟨_, rfl, rfl, _, rfl, iteFb (by decide +kernel) ?_⟩
      refine ⟨_, rfl, rfl, _, rfl, iteFb (by decide +kernel) ?_⟩
      refine ⟨_, rfl, rfl, _, rfl, iteTb (by decide +kernel) ?_⟩
      refine ⟨_, rfl, _, rfl, _, _, (1 : Int), _, rfl, rfl, SqT.of e1, rfl, hd, _, _, _, rfl, rfl, SqL.of hh, atI_nat (ihd ok.1), ?_⟩
      refine ⟨_, rfl, _, rfl, _, _, (2 : Int), _, rfl, rfl, SqT.of e1, rfl, hd, _, _, _, rfl, rfl, SqL.of hh, atI_nat (ihd ok.2), rfl, ?_⟩
      refine ⟨_, rfl, _, _, (3 : Int), _, rfl, rfl, SqT.of e1, rfl, rfl, ?_⟩
      have q := q H Same.rf
      rw [dec_bl, dec_int]
      exact q
    | less i j f =>
      obtain ⟨a, rfl, e1⟩ := cond_two hc
      refine ⟨_, rfl, _, _, (0 : Int), _, rfl, rfl, SqT.of e1, rfl, ?_⟩
      refine ⟨_, rfl, p, _, dx, _, _, rfl, p0, T.c_Place, T.n_Place_heads, plF_heads, ?_⟩
      refine ⟨_, rfl, rfl, _, rfl, iteFb (by decide +kernel) ?_⟩
      refine ⟨_, rfl, rfl, _, rfl, iteFb (by decide +kernel) ?_⟩
      refine ⟨_, rfl, rfl, _, rfl, iteFb (by decide +kernel) ?_⟩
      refine ⟨_, rfl, rfl, _, rfl, iteFb (by decide +kernel) ?_⟩
      refine ⟨_, rfl, _, rfl, _, _, (1 : Int), _, rfl, rfl, SqT.of e1, rfl, hd, _, _, _, rfl, rfl, SqL.of hh, atI_nat (ihd ok.1), ?_⟩
      refine ⟨_, rfl, _, rfl, _, _, (2 : Int), _, rfl, rfl, SqT.of e1, rfl, hd, _, _, _, rfl, rfl, SqL.of hh, atI_nat (ihd ok.2), _, _, rfl, rfl, ?_⟩
      refine ⟨_, rfl, _, _, (3 : Int), _, rfl, rfl, SqT.of e1, rfl, rfl, ?_⟩
      have q := q H Same.rf
      rw [dec_bl]
      exact q
    | last i f =>
      obtain ⟨a, rfl, e1⟩ := cond_last hc
      refine ⟨_, rfl, _, _, (0 : Int), _, rfl, rfl, SqT.of e1, rfl, ?_⟩
      refine ⟨_, rfl, p, _, dx, _, _, rfl, p0, T.c_Place, T.n_Place_heads, plF_heads, ?_⟩
      refine ⟨_, rfl, rfl, _, rfl, iteFb (by decide +kernel) ?_⟩
      refine ⟨_, rfl, rfl, _, rfl, iteFb (by decide +kernel) ?_⟩
      refine ⟨_, rfl, rfl, _, rfl, iteTb (by decide +kernel) ?_⟩
      refine ⟨_, rfl, _, rfl, _, _, (1 : Int), _, rfl, rfl, SqT.of e1, rfl, hd, _, _, _, rfl, rfl, SqL.of hh, atI_nat (ihd ok), ?_⟩
      refine ⟨_, rfl, p, _, dx, _, _, rfl, p0, T.c_Place, T.n_Place_size, plF_size, _, _, rfl, rfl, rfl, ?_⟩
      refine ⟨_, rfl, _, _, (2 : Int), _, rfl, rfl, SqT.of e1, rfl, rfl, ?_⟩
      have q := q H Same.rf
      rw [dec_bl, dec_int]
      exact q
end K54
set_option Elab.async false
set_option linter.all false
set_option maxRecDepth 100000
set_option maxHeartbeats 4000000
set_option pp.maxSteps 800
namespace K54
open PySem PySem.Spec PyProof.Rows L2
variable {P : Program} {w : World} {K : PySem.W.Frag} {mg : Str → Option Value} {base : Heap}
theorem ixN_nat {n i : Nat} (h : i < n) : ixN n (i : Int) = some i := by
  unfold ixN
  rw [if_pos (by omega), if_pos (by omega)]
  simp
theorem moves_app (n : Nat) : ∀ (hs : List Int) (as bs : List Act), moves n hs (as ++ bs) = (moves n hs as).bind fun hs' => moves n hs' bs
  | hs, [], bs => rfl
  | hs, a :: as, bs => by
    rw [List.cons_append, moves, moves]
    cases moveA n hs a with
    | none => rfl
    | some h1 => exact moves_app n h1 as bs
theorem moves_take {n : Nat} {hs hs' : List Int} {as : List Act} {i : Nat} {a : Act} (e : as[i]? = some a) (h : moves n hs (as.take i) = some hs') : moves n hs (as.take (i + 1)) = moveA n hs' a := by
  rw [List.take_add_one, e, moves_app, h]
  show moves n hs' [a] = _
  rw [moves]
  cases moveA n hs' a <;> rfl
theorem moves_none {n : Nat} {hs hs' : List Int} {as : List Act} {i : Nat} {a : Act} (e : as[i]? = some a) (h : moves n hs (as.take i) = some hs') (hn : moveA n hs' a = none) : moves n hs as = none := by
  have h1 := moves_take e h
  rw [hn] at h1
  rw [← List.take_append_drop (i + 1) as, moves_app, h1]
  rfl
theorem map_set_int (hs : List Int) (i : Nat) (v : Int) : (hs.map V.int).set i (.int v) = (hs.set i v).map V.int := by
  rw [List.map_set]
def spMoved (K : PySem.W.Frag) : Sp := fun vs H Q _ => ∃ (p : Addr) (x : V) (n h : Nat) (dr de : Addr) (c : Cf) (as : List Act), vs = [.ref p, x] ∧ PlAt K H p n dr de c ∧ Dv H x (.tuple (as.map actD)) ∧ (∀ a ∈ as, actOk h a) ∧ c.2.length = h ∧
  (∀ v ∈ c.2, 0 ≤ v ∧ v < (n : Int)) ∧ 1 ≤ n ∧ ∀ H', Same H H' → (moves n c.2 as = none → Q .non H') ∧
    ∀ hs' t h2 w2, moves n c.2 as = some hs' → H h2 = none → H' t = some (.tup [.ref h2, .ref w2]) → H' h2 = some (.lst (hs'.map V.int)) → H' w2 = some (.lst []) → Q (.ref t) H'
theorem sc_Place_moved : FnScope ["self", "actions", "heads", "written", "action", "word", "head"] ["self", "actions"] (defScope s_Place_moved) := ⟨rfl, rfl, rfl, by decide +kernel, rfl, by decide +kernel, by decide +kernel⟩
theorem d_Place_moved (T : Txt w K mg) : Def P w K mg base CX0 1 ("Place", some "moved") ["self", "actions"] (spMoved K) := by
  refine Def.of0 (k := 0) T.f_Place_moved sc_Place_moved (fun _ _ _ _ _ _ us hl => match us, hl with | [_, _], _ => rfl) (fun vs H Q E h => ?_) (fun cdv A outer s H vs Q E hr h => ?_)
  · obtain ⟨p, x, n, h, dr, de, c, as, rfl, _⟩ := h
    rfl
  · obtain ⟨p, x, n, h, dr, de, c, as, rfl, ⟨dx, hd, mk, p0, hh, _⟩, hx, ok, hl, hp, n1, q⟩ := h
    refine ⟨_, ((pss_cons (ps_set (i := 2) sc_Place_moved.nd rfl (Or.inr rfl) (pe_ty call_list_of T.b_list (pa_cons (pe_fld (pv 0) rfl) pa_nil)))
       (pss_cons (ps_set (i := 3) sc_Place_moved.nd rfl (Or.inl rfl) (pe_lst pa_nil))
       (pss_cons (ps_for PassesOwn.never rfl (pi_tup (pv 1)) (pg_name (i := 4) sc_Place_moved.nd rfl (Or.inl rfl))
       (pss_cons (ps_set (i := 5) sc_Place_moved.nd rfl (Or.inl rfl) (pe_ix ix_tup (pv 4) pe_int (fun _ _ => rfl)))
       (pss_one (ps_if (pt_cmpR op_eq (pv 5) pe_str (nomark _))
       (pss_cons (ps_augS (pv 2) (pe_ix ix_tup (pv 4) pe_int (fun _ _ => rfl)) get_list pe_int ip_add set_list)
       (pss_one (ps_if (pt_cmpR op_eq (pe_ix ix_list (pv 2) (pe_ix ix_tup (pv 4) pe_int (fun _ _ => rfl)) (fun _ _ => rfl)) (pe_fld (pv 0) rfl) (nomark _))
       (pss_one (ps_ret pe_non))
       pss_nil)))
       (pss_one (ps_if (pt_cmpR op_eq (pv 5) pe_str (nomark _))
       (pss_cons (ps_augS (pv 2) (pe_ix ix_tup (pv 4) pe_int (fun _ _ => rfl)) get_list pe_int ip_sub set_list)
       (pss_one (ps_if (pt_cmpR op_lt (pe_ix ix_list (pv 2) (pe_ix ix_tup (pv 4) pe_int (fun _ _ => rfl)) (fun _ _ => rfl)) pe_int (nomark _))
       (pss_one (ps_ret pe_non))
       pss_nil)))
       (pss_one (ps_if (pt_cmpR op_eq (pv 5) pe_str (nomark _))
       (pss_one (ps_asg pe_int (pg_sub (pv 2) (pe_ix ix_tup (pv 4) pe_int (fun _ _ => rfl)) set_list)))
       (pss_one (ps_if (pt_cmpR op_eq (pv 5) pe_str (nomark _))
       (pss_one (ps_asg (pe_ix ix_list (pv 2) (pe_ix ix_tup (pv 4) pe_int (fun _ _ => rfl)) (fun _ _ => rfl)) (pg_sub (pv 2) (pe_ix ix_tup (pv 4) pe_int (fun _ _ => rfl)) set_list)))
       (pss_one (ps_expr (pe_bm PySem.F.plainAttrs_list PySem.F.slot_list_append PySem.F.type_list_append mt_append (pv 3) (pa_cons (pe_tup (pa_cons (pe_ix ix_tup (pv 4) pe_int (fun _ _ => rfl)) (pa_cons (pe_ty call_tuple_of T.b_tuple (pa_cons (pe_lc (own := [("head", 6)]) (g := (gName 6)) (by rfl) sc_Place_moved.nd (pi_tup (pe_ix ix_tup (pv 4) pe_int (fun _ _ => rfl))) (blkOk_by (own := [("head", 6)]) (N := ["self", "actions", "heads", "written", "action", "word", "head"]) (sc := defScope s_Place_moved) (by decide +kernel)) (fun _ _ _ _ _ => (pg_name (i := 6) sc_Place_moved.nd rfl (Or.inl rfl) (Or.inr rfl))) (fun _ _ _ _ _ => pts_nil) (fun _ _ _ _ _ => (pe_ix (ix_listK (K := K) rfl) (pv 2) (pv 6) (fun _ _ => rfl)))) pa_nil)) (pa_cons (pe_ix ix_tup (pv 4) pe_int (fun _ _ => rfl)) pa_nil)))) pa_nil))))))))))))))
       (pss_one (ps_ret (pe_tup (pa_cons (pv 2) (pa_cons (pv 3) pa_nil))))))))), ?_⟩
    obtain ⟨b, xs, rfl, e1, r1⟩ := hx.tup_inv
    have lx : xs.length = as.length := by rw [r1.len, List.length_map]
    refine ⟨_, rfl, p, _, dx, _, _, rfl, p0, T.c_Place, T.n_Place_heads, plF_heads, hd, _, rfl, .inl (SqL.of hh), fun l nl => ?_⟩
    refine ⟨Nat.zero_le _, fun w2 nw => ?_⟩
    have nlw : l ≠ w2 := fun z => by rw [← z, upd_same] at nw; cases nw
    have nw0 : H w2 = none := by
      rw [upd_ne nlw.symm] at nw
      exact nw
    have s1 : Same H (upd (upd H l (.lst (c.2.map V.int))) w2 (.lst [])) := Same.tr (same_upd nl) (same_upd nw)
    have l1 : (upd (upd H l (.lst (c.2.map V.int))) w2 (.lst [])) l = some (.lst (c.2.map V.int)) := (upd_ne nlw).trans upd_same
    have w1 : (upd (upd H l (.lst (c.2.map V.int))) w2 (.lst [])) w2 = some (.lst []) := upd_same
    generalize upd (upd H l (.lst (c.2.map V.int))) w2 (.lst []) = H1 at s1 l1 w1 ⊢
    refine ⟨_, rfl, b, rfl, ⟨_, SqT.of (s1 _ _ e1)⟩, for_tup (K := K) (a := b) (xs := xs) (fun i σ H' => Same H H' ∧ (∃ hs', moves n c.2 (as.take i) = some hs' ∧ H' l = some (.lst (hs'.map V.int))) ∧ H' w2 = some (.lst []) ∧
      ∃ u v, σ = [some (.ref p), some (.ref b), some (.ref l), some (.ref w2), u, v, none]) ⟨s1, ⟨_, rfl, l1⟩, w1, _, _, rfl⟩ ?_ ?_ ?_⟩
    · rintro i σ H' hi ⟨s2, _⟩
      exact SqT.of (s2 _ _ e1)
    · rintro i x σ H' hx ⟨s2, ⟨hs', hm, l2⟩, w2', u, v, rfl⟩
      obtain ⟨a, ha, ra⟩ := r1.gets hx
      have oka := ok a (List.mem_of_getElem? ha)
      have hmk := moves_ok n1 (fun a ha => ok a (List.mem_of_mem_take ha)) hl hp hm
      have hlen := hmk.1
      have getv : ∀ {hs2 : List Int} {i : Nat}, i < hs2.length → (hs2.map V.int)[i]? = some (.int (at' hs2 i)) := fun {hs2 i} hi => by
        rw [List.getElem?_map, at_some hi]
        rfl
      have stay : ∀ {o : HO}, Same H (upd H' l o) := fun {o} b' o' e => by
        rw [upd_ne (ne_of_none e nl)]
        exact s2 _ _ e
      have wst : ∀ {o : HO}, (upd H' l o) w2 = some (.lst []) := fun {o} => (upd_ne nlw.symm).trans w2'
      have set_same : ∀ (hs2 : List Int) (i : Nat) (v : Int), i < hs2.length → at' (hs2.set i v) i = v := fun hs2 i v hi => by
        unfold at'
        rw [List.getElem?_set_self hi]
        rfl
      cases a with
      | up j =>
        obtain ⟨ta, rfl, f1⟩ := act_one ra
        have hj : j < hs'.length := by rw [hlen]; exact oka
        have f1 := s2 _ _ f1
        have ntl : ta ≠ l := ne_of f1 l2 (by intro z; cases z)
        refine ⟨_, rfl, _, _, (0 : Int), _, rfl, rfl, SqT.of f1, rfl, ?_⟩
        refine ⟨_, rfl, rfl, _, rfl, iteTb (by decide +kernel) ?_⟩
        refine ⟨_, rfl, _, rfl, _, _, (1 : Int), _, rfl, rfl, SqT.of f1, rfl, l, _, j, _, rfl, rfl, SqL.of l2, getv hj, _, _, rfl, rfl, l, _, _, j, rfl, rfl, l2, ixN_nat (by rw [List.length_map]; exact hj), ?_⟩
        rw [map_set_int]
        have f2 := (upd_ne (o := .lst ((hs'.set j (at' hs' j + 1)).map V.int)) ntl).trans f1
        have l3 : (upd H' l (.lst ((hs'.set j (at' hs' j + 1)).map V.int))) l = _ := upd_same
        refine ⟨_, rfl, _, rfl, _, _, (1 : Int), _, rfl, rfl, SqT.of f2, rfl, l, _, _, _, rfl, rfl, SqL.of l3, atI_nat (getv (by rw [List.length_set]; exact hj)), ?_⟩
        refine ⟨_, rfl, p, _, dx, _, _, rfl, stay _ _ p0, T.c_Place, T.n_Place_size, plF_size, rfl, _, rfl, ?_⟩
        rw [set_same _ _ _ hj, dec_int]
        by_cases hn : at' hs' j + 1 = (n : Int)
        · refine iteTb (by rw [hn]; exact beq_self_eq_true _) ((q _ stay).1 (moves_none ha hm ?_))
          exact if_pos hn
        · refine iteFb (beq_eq_false_iff_ne.mpr hn) ⟨stay, ⟨_, ?_, upd_same⟩, wst, _, _, rfl⟩
          rw [moves_take ha hm]
          exact if_neg hn
      | down j =>
        obtain ⟨ta, rfl, f1⟩ := act_one ra
        have hj : j < hs'.length := by rw [hlen]; exact oka
        have f1 := s2 _ _ f1
        have ntl : ta ≠ l := ne_of f1 l2 (by intro z; cases z)
        refine ⟨_, rfl, _, _, (0 : Int), _, rfl, rfl, SqT.of f1, rfl, ?_⟩
        refine ⟨_, rfl, rfl, _, rfl, iteFb (by decide +kernel) ?_⟩
        refine ⟨_, rfl, rfl, _, rfl, iteTb (by decide +kernel) ?_⟩
        refine ⟨_, rfl, _, rfl, _, _, (1 : Int), _, rfl, rfl, SqT.of f1, rfl, l, _, j, _, rfl, rfl, SqL.of l2, getv hj, _, _, rfl, rfl, l, _, _, j, rfl, rfl, l2, ixN_nat (by rw [List.length_map]; exact hj), ?_⟩
        rw [map_set_int]
        have f2 := (upd_ne (o := .lst ((hs'.set j (at' hs' j - 1)).map V.int)) ntl).trans f1
        have l3 : (upd H' l (.lst ((hs'.set j (at' hs' j - 1)).map V.int))) l = _ := upd_same
        refine ⟨_, rfl, _, rfl, _, _, (1 : Int), _, rfl, rfl, SqT.of f2, rfl, l, _, _, _, rfl, rfl, SqL.of l3, atI_nat (getv (by rw [List.length_set]; exact hj)), _, _, rfl, rfl, _, rfl, ?_⟩
        rw [set_same _ _ _ hj]
        by_cases hn : at' hs' j - 1 < 0
        · refine iteTb (decide_eq_true hn) ((q _ stay).1 (moves_none ha hm ?_))
          exact if_pos hn
        · refine iteFb (decide_eq_false hn) ⟨stay, ⟨_, ?_, upd_same⟩, wst, _, _, rfl⟩
          rw [moves_take ha hm]
          exact if_neg hn
      | zero j =>
        obtain ⟨ta, rfl, f1⟩ := act_one ra
        have hj : j < hs'.length := by rw [hlen]; exact oka
        have f1 := s2 _ _ f1
        refine ⟨_, rfl, _, _, (0 : Int), _, rfl, rfl, SqT.of f1, rfl, ?_⟩
        refine ⟨_, rfl, rfl, _, rfl, iteFb (by decide +kernel) ?_⟩
        refine ⟨_, rfl, rfl, _, rfl, iteFb (by decide +kernel) ?_⟩
        refine ⟨_, rfl, rfl, _, rfl, iteTb (by decide +kernel) ?_⟩
        refine ⟨_, rfl, _, rfl, _, _, (1 : Int), _, rfl, rfl, SqT.of f1, rfl, l, _, _, j, rfl, rfl, l2, ixN_nat (by rw [List.length_map]; exact hj), ?_⟩
        rw [map_set_int]
        refine ⟨stay, ⟨_, ?_, upd_same⟩, wst, _, _, rfl⟩
        rw [moves_take ha hm]
        rfl
      | copy j k =>
        obtain ⟨ta, rfl, f1⟩ := act_two ra
        have hj : j < hs'.length := by rw [hlen]; exact oka.1
        have hk : k < hs'.length := by rw [hlen]; exact oka.2
        have f1 := s2 _ _ f1
        refine ⟨_, rfl, _, _, (0 : Int), _, rfl, rfl, SqT.of f1, rfl, ?_⟩
        refine ⟨_, rfl, rfl, _, rfl, iteFb (by decide +kernel) ?_⟩
        refine ⟨_, rfl, rfl, _, rfl, iteFb (by decide +kernel) ?_⟩
        refine ⟨_, rfl, rfl, _, rfl, iteFb (by decide +kernel) ?_⟩
        refine ⟨_, rfl, rfl, _, rfl, iteTb (by decide +kernel) ?_⟩
        refine ⟨_, rfl, _, rfl, _, _, (2 : Int), _, rfl, rfl, SqT.of f1, rfl, l, _, _, _, rfl, rfl, SqL.of l2, atI_nat (getv hk), ?_⟩
        refine ⟨_, rfl, _, rfl, _, _, (1 : Int), _, rfl, rfl, SqT.of f1, rfl, l, _, _, j, rfl, rfl, l2, ixN_nat (by rw [List.length_map]; exact hj), ?_⟩
        rw [map_set_int]
        refine ⟨stay, ⟨_, ?_, upd_same⟩, wst, _, _, rfl⟩
        rw [moves_take ha hm]
        rfl
    · rintro σ H' ⟨s2, ⟨hs', hm, l2⟩, w2', u, v, rfl⟩
      rw [lx, List.take_length] at hm
      refine ⟨_, rfl, _, rfl, by show 2 ≤ sizeLine; decide, fun t nt => ?_⟩
      exact (q _ (Same.tr s2 (same_upd nt))).2 hs' t l w2 hm nl upd_same (same_upd nt _ _ l2) (same_upd nt _ _ w2')
end K54
set_option Elab.async false
set_option linter.all false
set_option maxRecDepth 100000
set_option maxHeartbeats 4000000
set_option pp.maxSteps 800
namespace K54
open PySem PySem.Spec PyProof.Rows L2
variable {P : Program} {w : World} {K : PySem.W.Frag} {mg : Str → Option Value} {base : Heap}
def ApT (D : Addr) (H : Hp) (v : V) (p : Nat × Cf) : Prop := ∃ a h2 w2, v = .ref a ∧ H a = some (.tup [vInt p.1, vInt p.2.1, .ref h2, .ref w2]) ∧ H h2 = some (.lst (p.2.2.map V.int)) ∧ h2 ≠ D
theorem ApT.mono {D : Addr} {H H' : Hp} (s : Same H H') {v : V} {p : Nat × Cf} (h : ApT D H v p) : ApT D H' v p :=
  let ⟨a, h2, w2, e, e1, e2, n⟩ := h
  ⟨a, h2, w2, e, s _ _ e1, s _ _ e2, n⟩
theorem ApT.put {D : Addr} {H : Hp} {xs ys : List V} (hd : H D = some (.lst ys)) {v : V} {p : Nat × Cf} (h : ApT D H v p) : ApT D (upd H D (.lst xs)) v p :=
  let ⟨a, h2, w2, e, e1, e2, n⟩ := h
  ⟨a, h2, w2, e, (upd_ne (ne_of e1 hd (by intro z; cases z))).trans e1, (upd_ne n).trans e2, n⟩
def Sees (m : Mach) (rels : List Rl) : Prop := ∀ r ∈ m.rs, ∀ z is f, Cond.rel z is f ∈ r.cs → ∃ rl ∈ rels, rl.z = z
theorem nexts_take {m : Mach} {n : Nat} {R : Nm → List Int → Bool} {c : Cf} {l : List (Rule × Nat)} {i : Nat} {p : Rule × Nat} (h : l[i]? = some p) :
    (l.take (i + 1)).filterMap (applyR n R c.2) = (l.take i).filterMap (applyR n R c.2) ++ (applyR n R c.2 p).toList := by
  rw [List.take_add_one, h, List.filterMap_append]
  congr 1
def spApply (P : Program) (w : World) (K : PySem.W.Frag) : Sp := fun vs H Q _ => ∃ (p : Addr) (m : Mach) (n : Nat) (rels : List Rl) (dr de : Addr) (c : Cf), vs = [.ref p] ∧ PlAt K H p n dr de c ∧ PlK P w H m rels dr de ∧ MachOk m ∧ CfOk m n c ∧ 1 ≤ n ∧ (rels.map Rl.z).Nodup ∧ Sees m rels ∧
  ∀ H' l vs, Same H H' → H' l = some (.lst vs) → Paired (ApT l H') vs (nexts m n (relHas rels) c) → Q (.ref l) H'
theorem sc_Place_applying : FnScope ["self", "found", "index", "rule", "behind", "condition"] ["self"] (defScope s_Place_applying) := ⟨rfl, rfl, rfl, by decide +kernel, rfl, by decide +kernel, by decide +kernel⟩
theorem d_Place_applying (T : Txt w K mg) : Def P w K mg base CX0 2 ("Place", some "applying") ["self"] (spApply P w K) := by
  refine Def.of0 (k := 1) T.f_Place_applying sc_Place_applying (fun _ _ _ _ _ _ us hl => match us, hl with | [_], _ => rfl) (fun vs H Q E h => ?_) (fun cdv A outer s H vs Q E hr h => ?_)
  · obtain ⟨p, m, n, rels, dr, de, c, rfl, _⟩ := h
    rfl
  · obtain ⟨p, m, n, rels, dr, de, c, rfl, pl, pk, ok, ck, n1, nd, see, q⟩ := h
    refine ⟨_, ((pss_cons (ps_set (i := 1) sc_Place_applying.nd rfl (Or.inl rfl) (pe_lst pa_nil))
       (pss_cons (ps_for PassesOwn.never rfl (pi_list (pe_dget2 (hu_of hr) (pe_fld (pv 0) rfl) (pe_fld (pv 0) rfl) (pe_lst pa_nil) ⟨rfl, rfl, rfl, rfl⟩)) (pg_tup rfl (pgs_cons (pg_name (i := 2) sc_Place_applying.nd rfl (Or.inl rfl)) (pgs_cons (pg_name (i := 3) sc_Place_applying.nd rfl (Or.inl rfl)) pgs_nil)))
       (pss_one (ps_if (pt_val (pe_b (cr_all rfl) T.b_all (pa_cons (pe_lc (own := [("condition", 5)]) (g := (gName 5)) (by rfl) sc_Place_applying.nd (pi_tup (pe_ix ix_tup (pv 3) pe_int (fun _ _ => rfl))) (blkOk_by (own := [("condition", 5)]) (N := ["self", "found", "index", "rule", "behind", "condition"]) (sc := defScope s_Place_applying) (by decide +kernel)) (fun _ _ _ _ _ => (pg_name (i := 5) sc_Place_applying.nd rfl (Or.inl rfl) (Or.inr rfl))) (fun _ _ _ _ _ => pts_nil) (fun _ _ _ _ _ => (pe_omK (K := K) rfl (d_Place_true (P := P) (base := base) T) (hr.mono (by decide)) T.c_Place T.m_Place_true pass0 (pv 0) (pa_cons (pv 5) pa_nil)))) pa_nil)))
       (pss_cons (ps_set (i := 4) sc_Place_applying.nd rfl (Or.inl rfl) (pe_om (d_Place_moved T) (hr.mono (by decide)) T.c_Place T.m_Place_moved pass0 (pv 0) (pa_cons (pe_ix ix_tup (pv 3) pe_int (fun _ _ => rfl)) pa_nil)))
       (pss_one (ps_if (pt_cmpR op_notN (pv 4) pe_non (nomark _))
       (pss_one (ps_expr (pe_bm PySem.F.plainAttrs_list PySem.F.slot_list_append PySem.F.type_list_append mt_append (pv 1) (pa_cons (pe_tup (pa_cons (pv 2) (pa_cons (pe_ix ix_tup (pv 3) pe_int (fun _ _ => rfl)) (pa_cons (pe_ix ix_tup (pv 4) pe_int (fun _ _ => rfl)) (pa_cons (pe_ix ix_tup (pv 4) pe_int (fun _ _ => rfl)) pa_nil))))) pa_nil))))
       pss_nil)))
       pss_nil)))
       (pss_one (ps_ret (pv 1)))))), ?_⟩
    have hm2 := ok.h
    obtain ⟨dx, hd, mk, p0, hh, hmk⟩ := id pl
    refine ⟨Nat.zero_le _, fun F nF => ?_⟩
    have s1 := same_upd (o := .lst []) nF
    have eF : (upd H F (.lst [])) F = some (.lst []) := upd_same
    generalize upd H F (.lst []) = H1 at s1 eF ⊢
    refine ⟨_, rfl, p, _, dx, _, _, rfl, s1 _ _ p0, T.c_Place, T.n_Place_rules, plF_rules, ?_⟩
    obtain ⟨kvs, ed, hq⟩ := pk.by_
    refine ⟨dr, rfl, .inl ⟨_, .inl (s1 _ _ ed)⟩, ?_⟩
    refine ⟨_, rfl, p, _, dx, _, _, rfl, s1 _ _ p0, T.c_Place, T.n_Place_state, plF_state, Nat.zero_le _, fun e0 ne0 => ?_⟩
    have s2 := Same.tr s1 (same_upd (o := .lst []) ne0)
    have eF2 := same_upd (o := .lst []) ne0 _ _ eF
    have e02 : (upd H1 e0 (.lst [])) e0 = some (.lst []) := upd_same
    have ne0F : e0 ≠ F := (ne_of_none eF ne0).symm
    generalize upd H1 e0 (.lst []) = H2 at s2 eF2 e02 ⊢
    refine ⟨_, DGet.k (k := .inl (c.1 : Int)) (s2 _ _ ed), ?_⟩
    have hlist : ∃ la xs, (valV kvs (Sum.inl (c.1 : Int))).getD (.ref e0) = .ref la ∧ H2 la = some (.lst xs) ∧ DvAll H2 xs ((ruAt m.rs c.1).map irD) ∧ la ≠ F := by
      rcases hq c.1 with ⟨h1, h2⟩ | ⟨l, h1, h2⟩
      · exact ⟨e0, [], by rw [h2]; rfl, e02, by rw [h1]; exact .nil, ne0F⟩
      · obtain ⟨_, xs, e, el, er⟩ := h2.lst_inv
        cases e
        exact ⟨l, xs, by rw [h1]; rfl, s2 _ _ el, er.mono s2, ne_of_none el nF⟩
    obtain ⟨la, xs, ela, el, er, nlF⟩ := hlist
    rw [ela]
    have lx : xs.length = (ruAt m.rs c.1).length := by rw [er.len, List.length_map]
    have lru : (ruAt m.rs c.1).length ≤ 1000 := by
      have := (List.filter_sublist (l := m.rs.zipIdx) (p := fun p => decide (p.1.q = c.1))).length_le
      rw [List.length_zipIdx] at this
      exact Nat.le_trans this ok.nrs
    refine ⟨la, rfl, ⟨_, SqL.of el⟩, for_list (K := K) (a := la) (xs := xs) (fun i σ H' => Kx F H2 H' ∧ Same H H' ∧ (∃ vs, H' F = some (.lst vs) ∧ Paired (ApT F H') vs (((ruAt m.rs c.1).take i).filterMap (applyR n (relHas rels) c.2)) ∧ vs.length ≤ i) ∧
      ∃ u v b, σ = [some (.ref p), some (.ref F), u, v, b, none]) ⟨.refl, s2, ⟨[], eF2, .nil, Nat.le_refl _⟩, _, _, _, rfl⟩ ?_ ?_ ?_⟩
    · rintro i σ H' hi ⟨k3, _⟩
      exact SqL.of (k3 _ _ nlF el)
    · rintro i x σ H' hx ⟨k3, s3, ⟨vs, e3, r3, lv⟩, u, v, b, rfl⟩
      obtain ⟨pr, hpr, rpr⟩ := er.gets hx
      have tk3 := k3.tups eF2 (by intro ys z; cases z)
      have rpr := rpr.monoT tk3 (noL_ir pr)
      obtain ⟨t, ws, rfl, et, rt⟩ := rpr.tup_inv
      obtain ⟨y1, _, rfl, ry1, rt⟩ := rt.cons_inv
      obtain ⟨y2, _, rfl, ry2, rt⟩ := rt.cons_inv
      cases rt.nil_inv
      cases ry1.int_inv
      obtain ⟨ra, rc, rd, rxs, rys, rfl, g1, g2, g3, g4, g5⟩ := rule_inv ry2
      have hmem := ruAt_mem (List.mem_of_getElem? hpr)
      have rok := ok.rs _ hmem.1
      have hi1 : i < 1000 := by
        have := (List.getElem?_eq_some_iff.mp hx).1
        omega
      refine ⟨t, _, rfl, SqT.of et, rfl, _, _, rfl, _, _, rfl, rfl, ?_⟩
      have lrx : rxs.length = pr.1.cs.length := by rw [g3.len, List.length_map]
      refine ⟨_, rfl, _, _, (1 : Int), _, rfl, rfl, SqT.of g1, rfl, rc, rfl, ⟨_, SqT.of g2⟩, fun D nD => lc_tup (K := K) (a := rc) (xs := rxs) (fun j H4 => Same H' H4 ∧ H4 D = some (.lst (((pr.1.cs.take j).map (evalC n (relHas rels) c.2)).map V.bl))) ⟨same_upd nD, upd_same⟩ ?_ ?_ ?_⟩
      · rintro j H4 hj ⟨s4, _⟩
        exact SqT.of (s4 _ _ g2)
      · rintro j y H4 hy ⟨s4, eD⟩
        obtain ⟨cd, hcd, rcd⟩ := g3.gets hy
        have hcm := List.mem_of_getElem? hcd
        have s04 := Same.tr s3 s4
        refine ⟨rfl, _, rfl, p, dx, _, rfl, s04 _ _ p0, plF_true, _, rfl, p, y, m, n, rels, dr, de, c, cd, rfl, ⟨dx, hd, mk, s04 _ _ p0, s04 _ _ hh, s04 _ _ hmk⟩, pk.monoI p0 (.of s04), rcd.mono s4, rok.cs cd hcm, ck.len, hm2, fun z is f e => see _ hmem.1 z is f (e ▸ hcm), nd, fun H5 s5 => ?_⟩
        refine ⟨_, s5 _ _ eD, ?_, fun b' o e => ?_, ?_⟩
        · rw [List.length_map, List.length_map, List.length_take, sizeLine_eq]
          have := rok.ncs
          omega
        · rw [upd_ne (ne_of_none e nD)]
          exact s5 _ _ (s4 _ _ e)
        · rw [List.take_add_one, hcd, List.map_append, List.map_append]
          exact upd_same
      rintro H4 ⟨s4, eD⟩
      rw [lrx, List.take_length] at eD
      refine ⟨D, pr.1.cs.map (evalC n (relHas rels) c.2), rfl, SqL.of eD, _, rfl, ?_⟩
      have s04 := Same.tr s3 s4
      have nDF : D ≠ F := (ne_of_none e3 nD).symm
      have k04 : Kx F H2 H4 := k3.trans (.of s4)
      have e4 := s4 _ _ e3
      have r4 : Paired (ApT F H4) vs (((ruAt m.rs c.1).take i).filterMap (applyR n (relHas rels) c.2)) := Paired.mapP r3 fun _ _ z => z.mono s4
      refine iteB (fun hall => ?_) (fun hall => ?_)
      · -- moved
        refine ⟨_, rfl, p, dx, _, rfl, s04 _ _ p0, plF_moved, ?_⟩
        refine ⟨_, rfl, _, _, (2 : Int), _, rfl, rfl, SqT.of (s4 _ _ g1), rfl, p, .ref rd, n, m.h, dr, de, c, pr.1.as, rfl, ⟨dx, hd, mk, s04 _ _ p0, s04 _ _ hh, s04 _ _ hmk⟩, .tup (s4 _ _ g4) (g5.mono s4), rok.as, ck.len, ck.pos, n1, fun H5 s5 => ⟨fun hmv => ?_, fun hs' tt h2 w2 hmv nh2 ett eh2 ew2 => ?_⟩⟩
        · refine ⟨_, rfl, rfl, _, rfl, iteFb rfl ?_⟩
          refine ⟨k04.trans (.of s5), Same.tr s04 s5, ⟨vs, s5 _ _ e4, ?_, by omega⟩, _, _, _, rfl⟩
          rw [nexts_take (m := m) hpr]
          have : applyR n (relHas rels) c.2 pr = none := by
            unfold applyR
            rw [if_pos hall, hmv]
            rfl
          rw [this, Option.toList_none, List.append_nil]
          exact Paired.mapP r4 fun _ _ z => z.mono s5
        · refine ⟨_, rfl, rfl, _, rfl, iteTb rfl ?_⟩
          have e5 := s5 _ _ e4
          refine ⟨_, rfl, .inl ⟨rfl, _, SqL.of e5⟩, _, rfl, _, rfl, _, _, (3 : Int), _, rfl, rfl, SqT.of (s5 _ _ (s4 _ _ g1)), rfl, _, rfl, _, _, (0 : Int), _, rfl, rfl, SqT.of ett, rfl, _, rfl, _, _, (1 : Int), _, rfl, rfl, SqT.of ett, rfl, by show 4 ≤ sizeLine; decide, fun t6 nt6 => ?_⟩
          have s6 := same_upd (o := .tup [vInt pr.2, vInt pr.1.q', .ref h2, .ref w2]) nt6
          have e6 := s6 _ _ e5
          refine ⟨F, _, _, rfl, rfl, e6, by rw [sizeLine_eq]; omega, ?_⟩
          have nh2F : h2 ≠ F := (ne_of_none e4 nh2).symm
          have ap : ApT F (upd H5 t6 (.tup [vInt pr.2, vInt pr.1.q', .ref h2, .ref w2])) (.ref t6) (pr.2, (pr.1.q', hs')) := ⟨t6, h2, w2, rfl, upd_same, s6 _ _ eh2, nh2F⟩
          refine ⟨(k04.trans (.of (Same.tr s5 s6))).trans .put, fun b' o e => ?_, ⟨_, upd_same, ?_, by rw [List.length_append, List.length_singleton]; omega⟩, _, _, _, rfl⟩
          · rw [upd_ne (ne_of_none e nF)]
            exact s6 _ _ (s5 _ _ (s04 _ _ e))
          · rw [nexts_take (m := m) hpr]
            have : applyR n (relHas rels) c.2 pr = some (pr.2, (pr.1.q', hs')) := by
              unfold applyR
              rw [if_pos hall, hmv]
              rfl
            rw [this, Option.toList_some]
            exact (Paired.mapP r4 fun _ _ z => (z.mono (Same.tr s5 s6)).put e6).snoc (ap.put e6)
      · refine ⟨k04, s04, ⟨vs, e4, ?_, by omega⟩, _, _, _, rfl⟩
        rw [nexts_take (m := m) hpr]
        have : applyR n (relHas rels) c.2 pr = none := by
          unfold applyR
          rw [if_neg (by rw [hall]; exact Bool.false_ne_true)]
        rw [this, Option.toList_none, List.append_nil]
        exact r4
    · rintro σ H' ⟨k3, s3, ⟨vs, e3, r3, lv⟩, u, v, b, rfl⟩
      rw [lx, List.take_length] at r3
      exact ⟨_, rfl, q H' F vs s3 e3 r3⟩
end K54
set_option Elab.async false
set_option linter.all false
set_option maxRecDepth 100000
set_option maxHeartbeats 4000000
set_option pp.maxSteps 800
namespace K54
open PySem PySem.Spec PyProof.Rows L2
variable {P : Program} {w : World} {K : PySem.W.Frag} {mg : Str → Option Value} {base : Heap}
def FoT (H : Hp) (v : V) (p : Nat × Cf) : Prop := ∃ a k, v = .ref a ∧ H a = some (.tup [vInt p.1, k]) ∧ KyT H (nk p.2) k
theorem FoT.mono {H H' : Hp} (t : TupS H H') {v : V} {p : Nat × Cf} (h : FoT H v p) : FoT H' v p :=
  let ⟨a, k, e, e1, e2⟩ := h
  ⟨a, k, e, t _ _ e1, e2.mono t⟩
def spFollow (P : Program) (w : World) (K : PySem.W.Frag) : Sp := fun vs H Q _ => ∃ (p : Addr) (x : V) (m : Mach) (n : Nat) (rels : List Rl) (dr de : Addr) (c : Cf), vs = [.ref p, x] ∧ Pl0 K H p n dr de ∧ PlK P w H m rels dr de ∧ KyT H (nk c) x ∧ MachOk m ∧ CfOk m n c ∧ 1 ≤ n ∧ (rels.map Rl.z).Nodup ∧ Sees m rels ∧
  ∀ H' l vs, Kx p H H' → PlAt K H' p n dr de c → H l = none → H' l = some (.lst vs) → Paired (FoT H') vs (nexts m n (relHas rels) c) → Q (.ref l) H'
theorem ruAt_few {m : Mach} (ok : MachOk m) (q : Nat) : (ruAt m.rs q).length ≤ 1000 := by
  have := (List.filter_sublist (l := m.rs.zipIdx) (p := fun p => decide (p.1.q = q))).length_le
  rw [List.length_zipIdx] at this
  exact Nat.le_trans this ok.nrs
theorem nexts_few {m : Mach} (ok : MachOk m) (n : Nat) (R : Nm → List Int → Bool) (c : Cf) : (nexts m n R c).length ≤ 1000 :=
  Nat.le_trans (List.length_filterMap_le _ _) (ruAt_few ok c.1)
theorem sc_followed : FnScope ["place", "configuration", "index", "state", "heads", "_"] ["place", "configuration"] (defScope s_followed) := ⟨rfl, rfl, rfl, by decide +kernel, rfl, by decide +kernel, by decide +kernel⟩
theorem d_followed (T : Txt w K mg) : Def P w K mg base CX0 3 ("followed", none) ["place", "configuration"] (spFollow P w K) := by
  refine Def.of0 (k := 2) T.f_followed sc_followed (fun _ _ _ _ _ _ us hl => match us, hl with | [_, _], _ => rfl) (fun vs H Q E h => ?_) (fun cdv A outer s H vs Q E hr h => ?_)
  · obtain ⟨p, x, m, n, rels, dr, de, c, rfl, _⟩ := h
    rfl
  · obtain ⟨p, x, m, n, rels, dr, de, c, rfl, pl, pk, hx, ok, ck, n1, nd, see, q⟩ := h
    refine ⟨_, ((pss_cons (ps_expr (pe_om (d_Place_load T) (hr.mono (by decide)) T.c_Place T.m_Place_load pass0 (pv 0) (pa_cons (pv 1) pa_nil)))
       (pss_one (ps_ret (pe_lc (own := [("index", 2), ("state", 3), ("heads", 4), ("_", 5)]) (g := (gTup K 4 (gCons (gName 2) (gCons (gName 3) (gCons (gName 4) (gCons (gName 5) gNil)))))) (by rfl) sc_followed.nd (pi_list (pe_om0 (d_Place_applying T) (hr.mono (by decide)) T.c_Place T.m_Place_applying pass0 (pv 0))) (blkOk_by (own := [("index", 2), ("state", 3), ("heads", 4), ("_", 5)]) (N := ["place", "configuration", "index", "state", "heads", "_"]) (sc := defScope s_followed) (by decide +kernel)) (fun _ _ _ _ _ => (pg_tup rfl (pgs_cons (pg_name (i := 2) sc_followed.nd rfl (Or.inl rfl) (Or.inr rfl)) (pgs_cons (pg_name (i := 3) sc_followed.nd rfl (Or.inl rfl) (Or.inr rfl)) (pgs_cons (pg_name (i := 4) sc_followed.nd rfl (Or.inl rfl) (Or.inr rfl)) (pgs_cons (pg_name (i := 5) sc_followed.nd rfl (Or.inl rfl) (Or.inr rfl)) pgs_nil)))))) (fun _ _ _ _ _ => pts_nil) (fun _ _ _ _ _ => (pe_tup (pa_cons (pv 2) (pa_cons (pe_tup (pa_cons (pv 3) (pa_cons (pe_ty (call_tuple_ofK (K := K) rfl) T.b_tuple (pa_cons (pv 4) pa_nil)) (pa_cons (pe_tup pa_nil) pa_nil)))) pa_nil))))))))), ?_⟩
    obtain ⟨dx, ost, hd, mk, p0⟩ := id pl
    refine ⟨_, rfl, p, dx, _, rfl, p0, plF_load, _, rfl, p, x, n, dr, de, c, rfl, pl, hx, fun H1 k1 pl1 => ?_⟩
    have pk1 := pk.monoI p0 k1
    obtain ⟨dx1, hd1, mk1, p1, hh1, hmk1⟩ := id pl1
    refine ⟨_, rfl, p, dx1, _, rfl, p1, plF_applying, p, m, n, rels, dr, de, c, rfl, pl1, pk1, ok, ck, n1, nd, see, fun H2 l vs s2 el rl => ?_⟩
    have lv : vs.length = (nexts m n (relHas rels) c).length := paired_len rl
    have lfew := nexts_few ok n (relHas rels) c
    refine ⟨l, rfl, ⟨_, SqL.of el⟩, fun D nD => lc_list (K := K) (a := l) (xs := vs) (fun i H3 => Same H2 H3 ∧ ∃ ws, H3 D = some (.lst ws) ∧ Paired (FoT H3) ws ((nexts m n (relHas rels) c).take i)) ⟨same_upd nD, [], upd_same, .nil⟩ ?_ ?_ ?_⟩
    · rintro i H3 hi ⟨s3, _⟩
      exact SqL.of (s3 _ _ el)
    · rintro i y H3 hy ⟨s3, ws, eD, rw'⟩
      obtain ⟨pr, hpr, a, h2, w2, rfl, ea, eh, _⟩ := paired_get rl hy
      refine ⟨a, _, rfl, SqT.of (s3 _ _ ea), rfl, _, _, rfl, _, _, rfl, _, _, rfl, _, _, rfl, rfl, rfl, ?_⟩
      refine ⟨_, rfl, _, rfl, _, rfl, h2, _, rfl, .inl ⟨SqL.of (s3 _ _ eh), fun t1 nt1 => ?_⟩⟩
      have s4 := same_upd (o := .tup (pr.2.2.map V.int)) nt1
      have e4 : (upd H3 t1 (.tup (pr.2.2.map V.int))) t1 = _ := upd_same
      generalize upd H3 t1 (.tup (pr.2.2.map V.int)) = H4 at s4 e4 ⊢
      refine ⟨Nat.zero_le _, fun t2 nt2 => ?_⟩
      have s5 := same_upd (o := .tup []) nt2
      have e5 : (upd H4 t2 (.tup [])) t2 = _ := upd_same
      have e45 := s5 _ _ e4
      generalize upd H4 t2 (.tup []) = H5 at s5 e5 e45 ⊢
      refine ⟨by show 3 ≤ sizeLine; decide, fun t3 nt3 => ?_⟩
      have s6 := same_upd (o := .tup [vInt pr.2.1, .ref t1, .ref t2]) nt3
      have e6 : (upd H5 t3 (.tup [vInt pr.2.1, .ref t1, .ref t2])) t3 = _ := upd_same
      have k6 : KyT (upd H5 t3 (.tup [vInt pr.2.1, .ref t1, .ref t2])) (nk pr.2) (.ref t3) := cf_mk e6 (s6 _ _ e45) (s6 _ _ e5)
      generalize upd H5 t3 (.tup [vInt pr.2.1, .ref t1, .ref t2]) = H6 at s6 e6 k6 ⊢
      refine ⟨by show 2 ≤ sizeLine; decide, fun t7 nt7 => ?_⟩
      have s7 := same_upd (o := .tup [vInt pr.1, .ref t3]) nt7
      have s37 := Same.tr s4 (Same.tr s5 (Same.tr s6 s7))
      have e7 : (upd H6 t7 (.tup [vInt pr.1, .ref t3])) t7 = _ := upd_same
      have k7 := k6.mono (Same.tupS s7)
      generalize upd H6 t7 (.tup [vInt pr.1, .ref t3]) = H7 at s37 e7 k7 ⊢
      have eD7 := s37 _ _ eD
      have tt : TupS H7 (upd H7 D (.lst (ws ++ [.ref t7]))) := tupS_upd (fun ys e => by rw [eD7] at e; cases e)
      refine ⟨ws, eD7, ?_, fun b' o e => ?_, _, upd_same, ?_⟩
      · have := paired_len rw'
        rw [List.length_take] at this
        rw [sizeLine_eq]
        omega
      · rw [upd_ne (ne_of_none e nD)]
        exact s37 _ _ (s3 _ _ e)
      · rw [List.take_add_one, hpr]
        exact (Paired.mapP rw' fun _ _ z => z.mono ((Same.tupS s37).trans tt)).snoc ⟨t7, .ref t3, rfl, tt _ _ e7, k7.mono tt⟩
    · rintro H3 ⟨s3, ws, eD, rw'⟩
      rw [lv, List.take_length] at rw'
      have s13 := Same.tr s2 s3
      have nD0 : H D = none := by
        cases hD : H D with
        | none => rfl
        | some o =>
          by_cases hDp : D = p
          · rw [hDp, s2 _ _ p1] at nD
            cases nD
          · rw [s2 _ _ (k1 _ _ hDp hD)] at nD
            cases nD
      exact q H3 D ws (k1.trans (.of s13)) ⟨dx1, hd1, mk1, s13 _ _ p1, s13 _ _ hh1, s13 _ _ hmk1⟩ nD0 eD rw'
end K54
set_option Elab.async false
set_option linter.all false
set_option maxRecDepth 100000
set_option maxHeartbeats 4000000
set_option pp.maxSteps 800
namespace K54
open PySem PySem.Spec PyProof.Rows L2
def posL (n : Nat) : Nat → List (List Int)
  | 0 => [[]]
  | h + 1 => (List.range n).flatMap fun (i : Nat) => (posL n h).map fun r => (i : Int) :: r
theorem posL_len (n : Nat) : ∀ h, (posL n h).length = n ^ h
  | 0 => rfl
  | h + 1 => by
    unfold posL
    rw [List.length_flatMap]
    have : (List.range n).map (fun (i : Nat) => ((posL n h).map fun r => (i : Int) :: r).length) = (List.range n).map fun _ => n ^ h := by
      congr 1
      funext i
      rw [List.length_map, posL_len n h]
    rw [this]
    have k : ∀ (l : List Nat) (x : Nat), (l.map fun _ => x).sum = l.length * x := by
      intro l x
      induction l with
      | nil => simp
      | cons a l ih => rw [List.map_cons, List.sum_cons, ih, List.length_cons, Nat.succ_mul, Nat.add_comm]
    rw [k, List.length_range, Nat.pow_succ, Nat.mul_comm]
theorem posL_mem {n : Nat} : ∀ {h : Nat} {l : List Int}, l.length = h → (∀ v ∈ l, 0 ≤ v ∧ v < (n : Int)) → l ∈ posL n h
  | 0, [], _, _ => by simp [posL]
  | h + 1, v :: l, hl, hv => by
    unfold posL
    have hv0 := hv v (by simp)
    rw [List.mem_flatMap]
    refine ⟨v.toNat, List.mem_range.mpr (by omega), List.mem_map.mpr ⟨l, posL_mem (by simpa using hl) (fun x hx => hv x (List.mem_cons_of_mem _ hx)), ?_⟩⟩
    rw [Int.toNat_of_nonneg hv0.1]
def allCf (m : Mach) (n : Nat) : List Cf := (List.range m.st).flatMap fun q => (posL n m.h).map fun l => (q, l)
theorem allCf_len (m : Mach) (n : Nat) : (allCf m n).length = m.st * n ^ m.h := by
  unfold allCf
  rw [List.length_flatMap]
  have : (List.range m.st).map (fun q => ((posL n m.h).map fun l => ((q, l) : Cf)).length) = (List.range m.st).map fun _ => n ^ m.h := by
    congr 1
    funext i
    rw [List.length_map, posL_len]
  rw [this]
  have k : ∀ (l : List Nat) (x : Nat), (l.map fun _ => x).sum = l.length * x := by
    intro l x
    induction l with
    | nil => simp
    | cons a l ih => rw [List.map_cons, List.sum_cons, ih, List.length_cons, Nat.succ_mul, Nat.add_comm]
  rw [k, List.length_range]
theorem allCf_mem {m : Mach} {n : Nat} {c : Cf} (h : CfOk m n c) : c ∈ allCf m n := by
  unfold allCf
  rw [List.mem_flatMap]
  exact ⟨c.1, List.mem_range.mpr h.q, List.mem_map.mpr ⟨c.2, posL_mem h.len h.pos, rfl⟩⟩
theorem few_cf {m : Mach} {n : Nat} {cs : List Cf} (nd : cs.Nodup) (h : ∀ c ∈ cs, CfOk m n c) : cs.length ≤ m.st * n ^ m.h := by
  rw [← allCf_len]
  exact nd.length_le_of_subset fun c hc => allCf_mem (h c hc)
inductive Reach (m : Mach) (n : Nat) (R : Nm → List Int → Bool) : Cf → Prop
  | start : Reach m n R (0, zeros m.h)
  | step {c : Cf} {p : Nat × Cf} : Reach m n R c → p ∈ nexts m n R c → Reach m n R p.2
theorem Reach.ok {m : Mach} {n : Nat} {R : Nm → List Int → Bool} (ok : MachOk m) (n1 : 1 ≤ n) {c : Cf} (h : Reach m n R c) : CfOk m n c := by
  induction h with
  | start => exact first_ok ok n1
  | step _ hp ih => exact nexts_ok ok n1 ih _ hp
def Accepts (m : Mach) (n : Nat) (R : Nm → List Int → Bool) : Prop := ∃ c, Reach m n R c ∧ c.1 = 1
def addC (ks : List Cf) (c : Cf) : List Cf := if c ∈ ks then ks else ks ++ [c]
def addsC (ks cs : List Cf) : List Cf := cs.foldl addC ks
theorem addC_mem {ks : List Cf} {c d : Cf} : d ∈ addC ks c ↔ d ∈ ks ∨ d = c := by
  unfold addC
  split
  · constructor
    · exact .inl
    · rintro (h | rfl)
      · exact h
      · assumption
  · simp
theorem addC_nodup {ks : List Cf} (h : ks.Nodup) (c : Cf) : (addC ks c).Nodup := by
  unfold addC
  split
  · exact h
  · rename_i hc
    rw [List.nodup_append]
    refine ⟨h, by simp, ?_⟩
    intro a ha b hb e
    simp at hb
    subst hb e
    exact hc ha
theorem addsC_mem {cs : List Cf} : ∀ {ks : List Cf} {d : Cf}, d ∈ addsC ks cs ↔ d ∈ ks ∨ d ∈ cs := by
  induction cs with
  | nil => intro ks d; simp [addsC]
  | cons c cs ih =>
    intro ks d
    show d ∈ addsC (addC ks c) cs ↔ _
    rw [ih, addC_mem, List.mem_cons, or_assoc]
theorem addsC_nodup {cs : List Cf} : ∀ {ks : List Cf}, ks.Nodup → (addsC ks cs).Nodup := by
  induction cs with
  | nil => intro ks h; exact h
  | cons c cs ih => intro ks h; exact ih (addC_nodup h c)
theorem addsC_app (ks cs ds : List Cf) : addsC ks (cs ++ ds) = addsC (addsC ks cs) ds := List.foldl_append
theorem nk_addC (ks : List Cf) (c : Cf) : (addC ks c).map nk = if nk c ∈ ks.map nk then ks.map nk else ks.map nk ++ [nk c] := by
  have e : nk c ∈ ks.map nk ↔ c ∈ ks := by
    constructor
    · intro h
      obtain ⟨d, hd, e⟩ := List.mem_map.mp h
      rw [← nk_inj e]
      exact hd
    · intro h
      exact List.mem_map.mpr ⟨c, h, rfl⟩
  unfold addC
  by_cases h : c ∈ ks
  · rw [if_pos h, if_pos (e.mpr h)]
  · rw [if_neg h, if_neg (fun z => h (e.mp z)), List.map_append]
    rfl
abbrev cfLe (a b : Cf) : Bool := keyLe (nk a) (nk b)
def sortC (cs : List Cf) : List Cf := cs.mergeSort cfLe
theorem sortC_nk (cs : List Cf) : (sortC cs).map nk = (cs.map nk).mergeSort keyLe := List.map_mergeSort (fun _ _ _ _ => rfl)
theorem sortC_mem {cs : List Cf} {c : Cf} : c ∈ sortC cs ↔ c ∈ cs := List.mem_mergeSort
theorem sortC_len (cs : List Cf) : (sortC cs).length = cs.length := List.length_mergeSort _
theorem sortC_nodup {cs : List Cf} (h : cs.Nodup) : (sortC cs).Nodup := (List.mergeSort_perm cs cfLe).nodup_iff.mpr h
theorem sortC_ext {cs ds : List Cf} (h1 : cs.Nodup) (h2 : ds.Nodup) (h : ∀ c, c ∈ cs ↔ c ∈ ds) : sortC cs = sortC ds := by
  have p : (sortC cs).Perm (sortC ds) := (List.mergeSort_perm _ _).trans (((List.perm_ext_iff_of_nodup h1 h2).mpr h).trans (List.mergeSort_perm _ _).symm)
  have tr : ∀ a b c : Cf, cfLe a b = true → cfLe b c = true → cfLe a c = true := fun a b c => keyLe_trans (nk a) (nk b) (nk c)
  have to : ∀ a b : Cf, (cfLe a b || cfLe b a) = true := fun a b => keyLe_total (nk a) (nk b)
  refine List.Perm.eq_of_pairwise ?_ (List.pairwise_mergeSort tr to cs) (List.pairwise_mergeSort tr to ds) p
  intro a b _ _ h1 h2
  exact nk_inj (keyLe_anti h1 h2)
section
variable (m : Mach) (n : Nat) (R : Nm → List Int → Bool)
abbrev nx (c : Cf) : List Cf := (nexts m n R c).map (·.2)
def lstep (L : List Cf) : List Cf := sortC (addsC [] (L.flatMap fun c => c :: nx m n R c))
def LL : Nat → List Cf
  | 0 => [(0, zeros m.h)]
  | i + 1 => lstep m n R (LL i)
end
section
variable {m : Mach} {n : Nat} {R : Nm → List Int → Bool}
theorem lstep_nodup (L : List Cf) : (lstep m n R L).Nodup := sortC_nodup (addsC_nodup List.nodup_nil)
theorem lstep_mem {L : List Cf} {d : Cf} : d ∈ lstep m n R L ↔ d ∈ L ∨ ∃ c ∈ L, d ∈ nx m n R c := by
  unfold lstep
  rw [sortC_mem, addsC_mem]
  simp only [List.not_mem_nil, false_or, List.mem_flatMap, List.mem_cons]
  constructor
  · rintro ⟨c, hc, rfl | h⟩
    · exact .inl hc
    · exact .inr ⟨c, hc, h⟩
  · rintro (h | ⟨c, hc, h⟩)
    · exact ⟨d, h, .inl rfl⟩
    · exact ⟨c, hc, .inr h⟩
theorem LL_nodup : ∀ i, (LL m n R i).Nodup
  | 0 => by simp [LL]
  | i + 1 => lstep_nodup _
theorem LL_reach : ∀ {i : Nat} {c : Cf}, c ∈ LL m n R i → Reach m n R c
  | 0, c, h => by
    have : c = (0, zeros m.h) := by simpa [LL] using h
    rw [this]
    exact .start
  | i + 1, c, h => by
    rcases lstep_mem.mp h with h | ⟨d, hd, h⟩
    · exact LL_reach h
    · obtain ⟨p, hp, rfl⟩ := List.mem_map.mp h
      exact .step (LL_reach hd) hp
theorem LL_up {i : Nat} {c : Cf} (h : c ∈ LL m n R i) : c ∈ LL m n R (i + 1) := lstep_mem.mpr (.inl h)
theorem LL_len_le (i : Nat) : (LL m n R i).length ≤ (LL m n R (i + 1)).length := (LL_nodup i).length_le_of_subset fun _ h => LL_up h
theorem LL_few (ok : MachOk m) (n1 : 1 ≤ n) (i : Nat) : (LL m n R i).length ≤ m.st * n ^ m.h := few_cf (LL_nodup i) fun _ hc => (LL_reach hc).ok ok n1
theorem LL_closed {i : Nat} (h : (LL m n R (i + 1)).length = (LL m n R i).length) {c : Cf} (hc : c ∈ LL m n R (i + 1)) : c ∈ LL m n R i := by
  refine Classical.byContradiction fun hn => ?_
  have nd : (c :: LL m n R i).Nodup := List.nodup_cons.mpr ⟨hn, LL_nodup i⟩
  have := nd.length_le_of_subset (l₂ := LL m n R (i + 1)) (fun d hd => by
    rcases List.mem_cons.mp hd with rfl | hd
    · exact hc
    · exact LL_up hd)
  rw [List.length_cons] at this
  omega
theorem LL_zero_mem : ∀ i, (0, zeros m.h) ∈ LL m n R i
  | 0 => by simp [LL]
  | i + 1 => LL_up (LL_zero_mem i)
theorem LL_all {i : Nat} (h : (LL m n R (i + 1)).length = (LL m n R i).length) {c : Cf} (hc : Reach m n R c) : c ∈ LL m n R i := by
  induction hc with
  | start => exact LL_zero_mem i
  | @step c p _ hp ih => exact LL_closed h (lstep_mem.mpr (.inr ⟨c, ih, List.mem_map.mpr ⟨p, hp, rfl⟩⟩))
structure IsLv (m : Mach) (n : Nat) (R : Nm → List Int → Bool) (r : Nat) : Prop where
  stop : (LL m n R (r + 1)).length = (LL m n R r).length
  go : ∀ i, i < r → (LL m n R (i + 1)).length ≠ (LL m n R i).length
theorem IsLv.uniq {r r' : Nat} (a : IsLv m n R r) (b : IsLv m n R r') : r = r' := by
  rcases Nat.lt_trichotomy r r' with l | l | l
  · exact absurd a.stop (b.go r l)
  · exact l
  · exact absurd b.stop (a.go r' l)
theorem LL_grow {r : Nat} (h : ∀ i, i < r → (LL m n R (i + 1)).length ≠ (LL m n R i).length) : ∀ i, i ≤ r → i + 1 ≤ (LL m n R i).length := by
  intro i
  induction i with
  | zero => intro _; simp [LL]
  | succ i ih =>
    intro hi
    have h1 := ih (by omega)
    have h2 := h i (by omega)
    have h3 := LL_len_le (m := m) (n := n) (R := R) i
    omega
abbrev lvls (m : Mach) (n : Nat) (R : Nm → List Int → Bool) (r : Nat) : List (List Cf) := (List.range (r + 2)).map (LL m n R)
end
end K54
set_option Elab.async false
set_option linter.all false
set_option maxRecDepth 100000
set_option maxHeartbeats 4000000
set_option pp.maxSteps 800
namespace K54
open PySem PySem.Spec PyProof.Rows L2
variable {P : Program} {w : World} {K : PySem.W.Frag} {mg : Str → Option Value} {base : Heap}
structure Good (K : PySem.W.Frag) (H : Hp) (x : V) (s : Addr) (m : Mach) (n : Nat) (rels : List Rl) : Prop where
  mv : Dv H x (machD m)
  ok : MachOk m
  ts : m.ts = []
  st : StrAt K H s n rels
  nd : (rels.map Rl.z).Nodup
  six : rels.length ≤ 6
  few : ∀ r ∈ rels, r.ks.length < 64
  sees : Sees m rels
  n1 : 1 ≤ n
  n16 : n ≤ 16
  small : m.st * n ^ m.h ≤ 2000
theorem Good.mono {H H' : Hp} {x : V} {s : Addr} {m : Mach} {n : Nat} {rels : List Rl} (g : Good K H x s m n rels) (e : Same H H') : Good K H' x s m n rels :=
  ⟨g.mv.mono e, g.ok, g.ts, g.st.mono e, g.nd, g.six, g.few, g.sees, g.n1, g.n16, g.small⟩
theorem Pl0.mono {H H' : Hp} {p : Addr} {n : Nat} {dr de : Addr} (h : Pl0 K H p n dr de) (e : ∀ o, H p = some o → H' p = some o) : Pl0 K H' p n dr de :=
  let ⟨dx, st, hd, mk, q⟩ := h
  ⟨dx, st, hd, mk, e _ q⟩
theorem refs_get {H : Hp} {cs : List Cf} {as : List Addr} (r : RefsOf H (cs.map nk) as) {i : Nat} {c : Cf} (e : cs[i]? = some c) : ∃ a, as[i]? = some a ∧ KyT H (nk c) (.ref a) := by
  obtain ⟨a, h1, h2⟩ := paired_get r (i := i) (a := nk c) (by rw [List.getElem?_map, e]; rfl)
  exact ⟨a, h1, h2⟩
def spReached (K : PySem.W.Frag) : Sp := fun vs H Q _ => ∃ (x : V) (s : Addr) (m : Mach) (n : Nat) (rels : List Rl), vs = [x, .ref s] ∧ Good K H x s m n rels ∧
  ∀ H' t b v, Same H H' → H' t = some (.tup [.ref b, v]) → ((v = .non ∧ ¬ Accepts m n (relHas rels)) ∨ (∃ a, v = .ref a) ∧ Accepts m n (relHas rels)) → Q (.ref t) H'
def mu17 (i : Nat) (N : Nat) : L2.St → Hp → Nat := fun σ _ => match σ[i]? with
  | some (some (.int j)) => ((N : Int) - j).toNat
  | _ => 0
theorem sc_reached : FnScope ["machine", "structure", "place", "start", "before", "queue", "at", "index", "after"] ["machine", "structure"] (defScope s_reached) := ⟨rfl, rfl, rfl, by decide +kernel, rfl, by decide +kernel, by decide +kernel⟩
theorem d_reached (T : Txt w K mg) : Def P w K mg base CX0 9 ("reached", none) ["machine", "structure"] (spReached K) := by
  refine Def.of0 (k := 8) T.f_reached sc_reached (fun _ _ _ _ _ _ us hl => match us, hl with | [_, _], _ => rfl) (fun vs H Q E h => ?_) (fun cdv A outer s H vs Q E hr h => ?_)
  · obtain ⟨x, sa, m, n, rels, rfl, _⟩ := h
    rfl
  · obtain ⟨x, sa, m, n, rels, rfl, g, q⟩ := h
    refine ⟨_, ((pss_cons (ps_set (i := 2) sc_reached.nd rfl (Or.inl rfl) (pe_new (d_Place_init T) (hr.mono (by decide)) T.mk_Place T.g_Place pass0 (pa_cons (pv 0) (pa_cons (pv 1) pa_nil))))
       (pss_cons (ps_set (i := 3) sc_reached.nd rfl (Or.inl rfl) (pe_f (d_first_configuration T) (hr.mono (by decide)) T.g_first_configuration pass0 (pa_cons (pv 0) pa_nil)))
       (pss_cons (ps_set (i := 4) sc_reached.nd rfl (Or.inl rfl) (pe_dispN hr.units (pv 3) pe_non))
       (pss_cons (ps_set (i := 5) sc_reached.nd rfl (Or.inl rfl) (pe_lst (pa_cons (pv 3) pa_nil)))
       (pss_cons (ps_set (i := 6) sc_reached.nd rfl (Or.inl rfl) pe_int)
       (pss_cons (ps_while PassesOwn.never (pt_cmpR op_lt (pv 6) (pe_b call_len_seq T.b_len (pa_cons (pv 5) pa_nil)) (nomark _))
       (pss_cons (ps_if (pt_cmpR op_eq (pe_ix ix_tup (pe_ix ix_list (pv 5) (pv 6) (fun _ _ => rfl)) pe_int (fun _ _ => rfl)) (pe_gi T.i_ACCEPTING) (nomark _))
       (pss_one (ps_ret (pe_tup (pa_cons (pv 4) (pa_cons (pe_ix ix_list (pv 5) (pv 6) (fun _ _ => rfl)) pa_nil)))))
       pss_nil)
       (pss_cons (ps_for PassesOwn.never rfl (pi_list (pe_f (d_followed T) (hr.mono (by decide)) T.g_followed pass0 (pa_cons (pv 2) (pa_cons (pe_ix ix_list (pv 5) (pv 6) (fun _ _ => rfl)) pa_nil)))) (pg_tup rfl (pgs_cons (pg_name (i := 7) sc_reached.nd rfl (Or.inl rfl)) (pgs_cons (pg_name (i := 8) sc_reached.nd rfl (Or.inl rfl)) pgs_nil)))
       (pss_one (ps_if (pt_cmpR (op_notInN hr.units) (pv 8) (pv 4) rfl)
       (pss_cons (ps_asg (pe_tup (pa_cons (pe_ix ix_list (pv 5) (pv 6) (fun _ _ => rfl)) (pa_cons (pv 7) pa_nil))) (pg_sub (pv 4) (pv 8) (set_N hr.units)))
       (pss_one (ps_expr (pe_bm PySem.F.plainAttrs_list PySem.F.slot_list_append PySem.F.type_list_append mt_append (pv 5) (pa_cons (pv 8) pa_nil)))))
       pss_nil)))
       (pss_one (ps_aug (i := 6) sc_reached.nd rfl (Or.inl rfl) pe_int ip_add)))))
       (pss_one (ps_ret (pe_tup (pa_cons (pv 4) (pa_cons pe_non pa_nil)))))))))))), ?_⟩
    have hN := fun (cs : List Cf) (nd : cs.Nodup) (hr : ∀ c ∈ cs, Reach m n (relHas rels) c) => Nat.le_trans (few_cf nd fun c hc => (hr c hc).ok g.ok g.n1) g.small
    refine ⟨_, rfl, _, rfl, fun p dx np ndx ndp => ?_⟩
    have s1 : Same H (upd (upd H dx (.own p)) p (.ins (He.ga K "Place") dx [])) := fun b o e => by
      rw [upd_ne (ne_of_none e np), upd_ne (ne_of_none e ndx)]
      exact e
    have g1 := g.mono s1
    refine ⟨p, dx, sa, x, m, n, rels, rfl, upd_same, g1.mv, g1.ok, g1.ts, g1.st, g1.nd, g1.six, g1.few, fun H2 dr de k2 pk pl => ⟨rfl, ?_⟩⟩
    have s2 : Same H H2 := fun b o e => k2 _ _ (ne_of_none e np) (s1 _ _ e)
    clear s1 g1 k2
    have g2 := g.mono s2
    refine ⟨_, rfl, x, m, rfl, g2.mv, g2.ok, g2.ts, fun H3 v s3 kv => ?_⟩
    obtain ⟨dx2, st2, hd2, mk2, epl2⟩ := pl.p0
    have pk3 := pk.monoI epl2 (.of s3)
    have epl3 := s3 _ _ epl2
    have pl3 := pl.p0.mono (H' := H3) fun o e => s3 _ _ e
    have s03 := Same.tr s2 s3
    obtain ⟨av, rfl⟩ := kv.ref
    intro bd nb n0 hn0
    have sb := same_upd (o := n0) nb
    refine ⟨_, rfl, upd_same, nk (0, zeros m.h), ⟨_, rfl⟩, kv.mono (Same.tupS sb), nk_depth _, fun n1' hn1 => ?_⟩
    have sb1 : Same H3 (upd (upd H3 bd n0) bd n1') := fun b o e => by
      rw [upd_ne (ne_of_none e nb), upd_ne (ne_of_none e nb)]
      exact e
    generalize upd (upd H3 bd n0) bd n1' = H4 at hn1 sb1 ⊢
    refine ⟨_, rfl, by show 1 ≤ sizeLine; decide, fun qd nq => ?_⟩
    have sq := same_upd (o := .lst [.ref av]) nq
    have nb3 : H3 bd = none := nb
    have nq3 : H3 qd = none := by
      cases hq : H3 qd with
      | none => rfl
      | some o => rw [sb1 _ _ hq] at nq; cases nq
    have nbq : bd ≠ qd := fun z => by
      obtain ⟨xs, e, _⟩ := hn1
      rw [z, nq] at e
      cases e
    have hn5 : NdAt P w (upd H4 qd (.lst [.ref av])) bd [nk (0, zeros m.h)] := hn1.mono (Same.tupS sq) fun o e => sq _ _ e
    have s35 : Same H3 (upd H4 qd (.lst [.ref av])) := Same.tr sb1 sq
    have eq5 : (upd H4 qd (.lst [.ref av])) qd = some (.lst [.ref av]) := upd_same
    generalize upd H4 qd (.lst [.ref av]) = H5 at hn5 s35 eq5 ⊢
    refine while_by (fun σ H' => ∃ (qs : List Cf) (at_ : Nat) (u v : Option V), σ = [some x, some (.ref sa), some (.ref p), some (.ref av), some (.ref bd), some (.ref qd), some (.int at_), u, v] ∧ Kx p H3 H' ∧ Pl0 K H' p n dr de ∧ NdAt P w H' bd (qs.map nk) ∧
      (∃ as : List Addr, H' qd = some (.lst (as.map V.ref)) ∧ RefsOf H' (qs.map nk) as) ∧ qs.Nodup ∧ (∀ c ∈ qs, Reach m n (relHas rels) c) ∧ at_ ≤ qs.length ∧ (∀ i c, i < at_ → qs[i]? = some c → c.1 ≠ 1 ∧ ∀ d ∈ nx m n (relHas rels) c, d ∈ qs) ∧ (0, zeros m.h) ∈ qs)
      (mu17 6 2001) ⟨[(0, zeros m.h)], 0, none, none, rfl, .of s35, pl3.mono fun o e => s35 _ _ e, hn5, ⟨[av], eq5, .cons (kv.mono (Same.tupS s35)) .nil⟩, by simp, fun c hc => by rw [List.mem_singleton.mp hc]; exact .start, Nat.zero_le _, fun i c h => absurd h (Nat.not_lt_zero _), by simp⟩ ?_ ?_
    · rintro σ H' ⟨qs, at_, u, v, rfl, k, pl', nb', ⟨as, eq', ra⟩, nd, hr, hle, hdone, h0⟩
      have lqs : (as.map V.ref).length = qs.length := by rw [List.length_map, ← paired_len ra, List.length_map]
      have few := hN qs nd hr
      have sH : Same H H' := fun b o e => k _ _ (ne_of_none e np) (s03 _ _ e)
      refine ⟨_, rfl, _, rfl, qd, _, rfl, .inl (SqL.of eq'), _, _, rfl, rfl, _, rfl, iteB (fun hlt => ?_) (fun hlt => ?_)⟩
      · have hlt := of_decide_eq_true hlt
        rw [lqs] at hlt
        have hlt : at_ < qs.length := by omega
        obtain ⟨c, hc⟩ : ∃ c, qs[at_]? = some c := ⟨_, List.getElem?_eq_getElem hlt⟩
        obtain ⟨a, ha, kc⟩ := refs_get ra hc
        have hget : (as.map V.ref)[at_]? = some (.ref a) := by rw [List.getElem?_map, ha]; rfl
        have hcm := List.mem_of_getElem? hc
        obtain ⟨_, h1, m1, e, ea, eh1, em1⟩ := cf_inv kc
        cases e
        refine ⟨_, rfl, _, rfl, qd, _, _, _, rfl, rfl, SqL.of eq', atI_nat hget, a, _, (0 : Int), _, rfl, rfl, SqT.of ea, rfl, rfl, _, rfl, ?_⟩
        rw [dec_int]
        refine iteB (fun hacc => ?_) (fun hacc => ?_)
        · have hacc : c.1 = 1 := by
            have := eq_of_beq hacc
            omega
          refine ⟨_, rfl, _, rfl, _, rfl, qd, _, _, _, rfl, rfl, SqL.of eq', atI_nat hget, by show 2 ≤ sizeLine; decide, fun t nt => ?_⟩
          exact q _ t bd (.ref a) (Same.tr sH (same_upd nt)) upd_same (.inr ⟨⟨a, rfl⟩, c, hr c hcm, hacc⟩)
        · have hna : c.1 ≠ 1 := fun z => by
            rw [z] at hacc
            cases hacc
          have ck := (hr c hcm).ok g.ok g.n1
          obtain ⟨dxp, stp, hdp, mkp, epl⟩ := id pl'
          refine ⟨_, rfl, _, rfl, _, rfl, qd, _, _, _, rfl, rfl, SqL.of eq', atI_nat hget, p, .ref a, m, n, rels, dr, de, c, rfl, pl', pk3.monoI epl3 k, kc, g.ok, ck, g.n1, g.nd, g.sees, fun H6 l vs k6 pl6 nl el rl => ?_⟩
          have npb : bd ≠ p := by
            obtain ⟨xs, e, _⟩ := nb'
            exact ne_of e epl (by intro z; cases z)
          have npq : qd ≠ p := ne_of eq' epl (by intro z; cases z)
          have tp6 : TupS H' H6 := k6.tups epl (by intro ys z; cases z)
          have nb6 : NdAt P w H6 bd (qs.map nk) := nb'.mono tp6 fun o e => k6 _ _ npb e
          have eq6 := k6 _ _ npq eq'
          have nlb : l ≠ bd := fun z => by
            obtain ⟨xs, e, _⟩ := nb'
            rw [z, e] at nl
            cases nl
          have nlq : l ≠ qd := (ne_of_none eq' nl).symm
          have lv : vs.length = (nexts m n (relHas rels) c).length := paired_len rl
          have hnr : ∀ j, ∀ d ∈ addsC qs ((nx m n (relHas rels) c).take j), Reach m n (relHas rels) d := fun j d hd => by
            rcases addsC_mem.mp hd with hd | hd
            · exact hr d hd
            · obtain ⟨pr, hp, rfl⟩ := List.mem_map.mp (List.mem_of_mem_take hd)
              exact .step (hr c hcm) hp
          refine ⟨l, rfl, ⟨_, SqL.of el⟩, for_list (K := K) (a := l) (xs := vs) (fun j σ H7 => (∀ a o, a ≠ bd → a ≠ qd → H6 a = some o → H7 a = some o) ∧ NdAt P w H7 bd ((addsC qs ((nx m n (relHas rels) c).take j)).map nk) ∧
            (∃ as : List Addr, H7 qd = some (.lst (as.map V.ref)) ∧ RefsOf H7 ((addsC qs ((nx m n (relHas rels) c).take j)).map nk) as) ∧ (∃ rest, addsC qs ((nx m n (relHas rels) c).take j) = qs ++ rest) ∧
            ∃ u v, σ = [some x, some (.ref sa), some (.ref p), some (.ref av), some (.ref bd), some (.ref qd), some (.int at_), u, v]) ⟨fun _ _ _ _ e => e, nb6, ⟨as, eq6, refsOf_mono tp6 ra⟩, ⟨[], by rw [List.take_zero, List.append_nil]; rfl⟩, _, _, rfl⟩ ?_ ?_ ?_⟩
          · rintro j σ H7 hj ⟨k7, _⟩
            exact SqL.of (k7 _ _ nlb nlq el)
          · rintro j y σ H7 hy ⟨k7, nb7, ⟨as7, eq7, ra7⟩, ⟨rest, hrest⟩, u, v, rfl⟩
            obtain ⟨pr, hpr, ty, kv2, rfl, ety, kk⟩ := paired_get rl hy
            have hd : (nx m n (relHas rels) c)[j]? = some pr.2 := by rw [List.getElem?_map, hpr]; rfl
            have tp7 : TupS H6 H7 := fun b' ys e => k7 _ _ (by
              obtain ⟨xs, eb, _⟩ := nb6
              exact ne_of e eb (by intro z; cases z)) (ne_of e eq6 (by intro z; cases z)) e
            have kk7 := kk.mono tp7
            obtain ⟨a2, rfl⟩ := kk7.ref
            have hadd : addsC qs ((nx m n (relHas rels) c).take (j + 1)) = addC (addsC qs ((nx m n (relHas rels) c).take j)) pr.2 := foldl_take hd
            have few7 := hN _ (addsC_nodup (cs := (nx m n (relHas rels) c).take j) nd) (hnr j)
            have las7 : (as7.map V.ref).length = (addsC qs ((nx m n (relHas rels) c).take j)).length := by rw [List.length_map, ← paired_len ra7, List.length_map]
            refine ⟨ty, _, rfl, SqT.of (tp7 _ _ ety), rfl, _, _, rfl, _, _, rfl, rfl, ?_⟩
            refine ⟨_, rfl, _, rfl, bd, nk pr.2, _, rfl, ⟨_, rfl⟩, kk7, nk_depth _, nb7, _, rfl, ?_⟩
            have enk : nk pr.2 ∈ (addsC qs ((nx m n (relHas rels) c).take j)).map nk ↔ pr.2 ∈ addsC qs ((nx m n (relHas rels) c).take j) := by
              constructor
              · intro h
                obtain ⟨d, hd, e⟩ := List.mem_map.mp h
                rw [← nk_inj e]
                exact hd
              · intro h
                exact List.mem_map.mpr ⟨_, h, rfl⟩
            by_cases hin : pr.2 ∈ addsC qs ((nx m n (relHas rels) c).take j)
            · refine iteFb (by rw [decide_eq_true (enk.mpr hin)]; rfl) ?_
              have e2 : addC (addsC qs ((nx m n (relHas rels) c).take j)) pr.2 = addsC qs ((nx m n (relHas rels) c).take j) := if_pos hin
              rw [hadd, e2]
              exact ⟨k7, nb7, ⟨as7, eq7, ra7⟩, ⟨rest, hrest⟩, _, _, rfl⟩
            · refine iteTb (by rw [decide_eq_false (fun z => hin (enk.mp z))]; rfl) ?_
              have hlt7 : at_ < (as7.map V.ref).length := by
                rw [las7, hrest, List.length_append]
                omega
              obtain ⟨v7, hv7⟩ : ∃ v7, (as7.map V.ref)[at_]? = some v7 := ⟨_, List.getElem?_eq_getElem hlt7⟩
              refine ⟨_, rfl, _, rfl, qd, _, _, _, rfl, rfl, SqL.of eq7, atI_nat hv7, _, rfl, by show 2 ≤ sizeLine; decide, fun t nt => ?_⟩
              have s8 := same_upd (o := .tup [v7, vInt pr.1]) nt
              have nb8 := nb7.mono (Same.tupS s8) fun o e => s8 _ _ e
              have eq8 := s8 _ _ eq7
              have ra8 := refsOf_mono (Same.tupS s8) ra7
              have kk8 := kk7.mono (Same.tupS s8)
              generalize upd H7 t (.tup [v7, vInt pr.1]) = H8 at s8 nb8 eq8 ra8 kk8 ⊢
              refine ⟨_, rfl, _, rfl, bd, nk pr.2, _, rfl, ⟨_, rfl⟩, kk8, nk_depth _, nb8, by rw [List.length_map, sizeLine_eq]; omega, fun n9 hn9 => ?_⟩
              rw [← nk_addC] at hn9
              have tp9 : TupS H8 (upd H8 bd n9) := tupS_upd (fun ys e => by
                obtain ⟨xs, eb, _⟩ := nb8
                rw [eb] at e
                cases e)
              have eq9 := (upd_ne (o := n9) nbq.symm).trans eq8
              have ra9 := refsOf_mono tp9 ra8
              have kk9 := kk8.mono tp9
              have k9 : ∀ a o, a ≠ bd → a ≠ qd → H6 a = some o → (upd H8 bd n9) a = some o := fun a o n1 n2 e => (upd_ne n1).trans (s8 _ _ (k7 _ _ n1 n2 e))
              generalize upd H8 bd n9 = H9 at hn9 eq9 ra9 kk9 k9 ⊢
              refine ⟨_, rfl, .inl ⟨rfl, _, SqL.of eq9⟩, _, rfl, qd, _, _, rfl, rfl, eq9, by rw [las7, sizeLine_eq]; omega, ?_⟩
              have tp10 : TupS H9 (upd H9 qd (.lst (as7.map V.ref ++ [.ref a2]))) := tupS_upd (fun ys e => by rw [eq9] at e; cases e)
              have e2 : addC (addsC qs ((nx m n (relHas rels) c).take j)) pr.2 = addsC qs ((nx m n (relHas rels) c).take j) ++ [pr.2] := if_neg hin
              rw [hadd]
              refine ⟨fun a o n1 n2 e => (upd_ne n2).trans (k9 _ _ n1 n2 e), hn9.mono tp10 fun o e => (upd_ne nbq).trans e, ⟨as7 ++ [a2], ?_, ?_⟩, ⟨rest ++ [pr.2], ?_⟩, _, _, rfl⟩
              · rw [List.map_append]
                exact upd_same
              · rw [e2, List.map_append]
                exact (refsOf_mono tp10 ra9).snoc (kk9.mono tp10)
              · rw [e2, hrest, List.append_assoc]
          · rintro σ H7 ⟨k7, nb7, ⟨as7, eq7, ra7⟩, ⟨rest, hrest⟩, u, v, rfl⟩
            have ltake : (nx m n (relHas rels) c).take vs.length = nx m n (relHas rels) c := by
              rw [lv]
              exact List.take_of_length_le (by rw [List.length_map]; exact Nat.le_refl _)
            have hnr := hnr vs.length
            rw [ltake] at nb7 ra7 hrest hnr
            refine ⟨_, rfl, _, _, rfl, rfl, ⟨addsC qs (nx m n (relHas rels) c), at_ + 1, u, v, rfl, fun b' o nb e => ?_, ?_, nb7, ⟨as7, eq7, ra7⟩, addsC_nodup nd, hnr, ?_, ?_, addsC_mem.mpr (.inl h0)⟩, ?_⟩
            · have e6 := k6 _ _ nb (k _ _ nb e)
              exact k7 _ _ (ne_of_none e nb3) (ne_of_none e nq3) e6
            · exact pl6.p0.mono fun o e => k7 _ _ npb.symm npq.symm e
            · rw [hrest, List.length_append]
              omega
            · intro i c' hi hc'
              by_cases hi2 : i < at_
              · have hc2 : qs[i]? = some c' := by
                  rw [hrest, List.getElem?_append_left (by omega)] at hc'
                  exact hc'
                have := hdone i c' hi2 hc2
                exact ⟨this.1, fun d hd => addsC_mem.mpr (.inl (this.2 d hd))⟩
              · have : i = at_ := by omega
                subst this
                rw [hrest, List.getElem?_append_left (by omega), hc] at hc'
                cases hc'
                exact ⟨hna, fun d hd => addsC_mem.mpr (.inr hd)⟩
            · show ((2001 : Int) - ((at_ : Int) + 1)).toNat < ((2001 : Int) - (at_ : Int)).toNat
              omega
      · have hlt := of_decide_eq_false hlt
        rw [lqs] at hlt
        have hat : at_ = qs.length := by omega
        have hall : ∀ {d}, Reach m n (relHas rels) d → d ∈ qs := fun {d} hd => by
          induction hd with
          | start => exact h0
          | @step c p _ hp ih =>
            obtain ⟨i, hi⟩ := List.mem_iff_getElem?.mp ih
            exact (hdone i c (by rw [hat]; exact (List.getElem?_eq_some_iff.mp hi).1) hi).2 _ (List.mem_map.mpr ⟨p, hp, rfl⟩)
        refine ⟨_, rfl, by show 2 ≤ sizeLine; decide, fun t nt => ?_⟩
        refine q _ t bd .non (Same.tr sH (same_upd nt)) upd_same (.inl ⟨rfl, ?_⟩)
        rintro ⟨d, hd, ha⟩
        obtain ⟨i, hi⟩ := List.mem_iff_getElem?.mp (hall hd)
        exact (hdone i d (by rw [hat]; exact (List.getElem?_eq_some_iff.mp hi).1) hi).1 ha
    · rintro σ H' Q Q' f ⟨_, h1, _, h2, _, _, h3, h4, _, _, h5, h6, _, h7, h8⟩
      exact ⟨_, h1, _, h2, _, _, h3, h4, _, _, h5, h6, _, h7, f _ _ h8⟩
end K54
set_option Elab.async false
set_option linter.all false
set_option maxRecDepth 100000
set_option maxHeartbeats 4000000
set_option pp.maxSteps 800
namespace K54
open PySem PySem.Spec PyProof.Rows L2
variable {P : Program} {w : World} {K : PySem.W.Frag} {mg : Str → Option Value} {base : Heap}
def lvD (L : List Cf) : PyData := .list (L.map cfD)
def LvT (ls : Addr) (H : Hp) (v : V) (L : List Cf) : Prop := ∃ (a : Addr) (as : List Addr), v = .ref a ∧ H a = some (.lst (as.map V.ref)) ∧ RefsOf H (L.map nk) as ∧ a ≠ ls
theorem LvT.move {ls : Addr} {H H' : Hp} {v : V} {L : List Cf} (h : LvT ls H v L) (k : ∀ a xs, a ≠ ls → H a = some (.lst xs) → H' a = some (.lst xs)) (t : TupS H H') : LvT ls H' v L :=
  let ⟨a, as, e, e1, r, n⟩ := h
  ⟨a, as, e, k _ _ n e1, refsOf_mono t r, n⟩
theorem refs_dvc {H : Hp} : ∀ {L : List Cf} {as : List Addr}, RefsOf H (L.map nk) as → DvAll H (as.map V.ref) (L.map cfD)
  | [], _, h => by
    cases h
    exact .nil
  | c :: L, _, h => by
    cases h with
    | cons a b =>
      have := a.dv
      rw [nk_data] at this
      exact .cons this (refs_dvc b)
theorem lvT_dv {ls : Addr} {H : Hp} {vs : List V} {Ls : List (List Cf)} (h : Paired (LvT ls H) vs Ls) : DvAll H vs (Ls.map lvD) := by
  induction h with
  | nil => exact .nil
  | cons z t ih =>
    obtain ⟨a, as, rfl, e, r, _⟩ := z
    exact .cons (.lst e (refs_dvc r)) ih
theorem same_len {cs ds : List Cf} (h1 : cs.Nodup) (h2 : ds.Nodup) (h : ∀ c, c ∈ cs ↔ c ∈ ds) : cs.length = ds.length := ((List.perm_ext_iff_of_nodup h1 h2).mpr h).length_eq
def spLevels (K : PySem.W.Frag) : Sp := fun vs H Q _ => ∃ (x : V) (s : Addr) (m : Mach) (n : Nat) (rels : List Rl), vs = [x, .ref s] ∧ Good K H x s m n rels ∧
  ∀ H' l r, Same H H' → IsLv m n (relHas rels) r → Dv H' (.ref l) (.list ((lvls m n (relHas rels) r).map lvD)) → Q (.ref l) H'
def mu18 (ls : Addr) : L2.St → Hp → Nat := fun _ H => match H ls with
  | some (.lst xs) => 2003 - xs.length
  | _ => 0
theorem sc_levels_of : FnScope ["machine", "structure", "place", "level", "known", "fresh", "levels", "found", "configuration", "_", "after"] ["machine", "structure"] (defScope s_levels_of) := ⟨rfl, rfl, rfl, by decide +kernel, rfl, by decide +kernel, by decide +kernel⟩
theorem d_levels_of (T : Txt w K mg) : Def P w K mg base CX0 9 ("levels_of", none) ["machine", "structure"] (spLevels K) := by
  refine Def.of0 (k := 8) T.f_levels_of sc_levels_of (fun _ _ _ _ _ _ us hl => match us, hl with | [_, _], _ => rfl) (fun vs H Q E h => ?_) (fun cdv A outer s H vs Q E hr h => ?_)
  · obtain ⟨x, sa, m, n, rels, rfl, _⟩ := h
    rfl
  · obtain ⟨x, sa, m, n, rels, rfl, g, q⟩ := h
    refine ⟨_, ((pss_cons (ps_set (i := 2) sc_levels_of.nd rfl (Or.inl rfl) (pe_new (d_Place_init T) (hr.mono (by decide)) T.mk_Place T.g_Place pass0 (pa_cons (pv 0) (pa_cons (pv 1) pa_nil))))
       (pss_cons (ps_set (i := 3) sc_levels_of.nd rfl (Or.inl rfl) (pe_lst (pa_cons (pe_f (d_first_configuration T) (hr.mono (by decide)) T.g_first_configuration pass0 (pa_cons (pv 0) pa_nil)) pa_nil)))
       (pss_cons (ps_set (i := 4) sc_levels_of.nd rfl (Or.inl rfl) (pe_dispN hr.units (pe_ix ix_list (pv 3) pe_int (fun _ _ => rfl)) pe_bl))
       (pss_cons (ps_set (i := 5) sc_levels_of.nd rfl (Or.inl rfl) (pv 3))
       (pss_cons (ps_set (i := 6) sc_levels_of.nd rfl (Or.inl rfl) (pe_lst (pa_cons (pv 3) pa_nil)))
       (pss_cons (ps_while PassesOwn.never (pt_truth (pv 5) (by intro _; rfl))
       (pss_cons (ps_set (i := 7) sc_levels_of.nd rfl (Or.inl rfl) (pe_lst pa_nil))
       (pss_cons (ps_for PassesOwn.never rfl (pi_list (pv 5)) (pg_name (i := 8) sc_levels_of.nd rfl (Or.inl rfl))
       (pss_one (ps_for PassesOwn.never rfl (pi_list (pe_f (d_followed T) (hr.mono (by decide)) T.g_followed pass0 (pa_cons (pv 2) (pa_cons (pv 8) pa_nil)))) (pg_tup rfl (pgs_cons (pg_name (i := 9) sc_levels_of.nd rfl (Or.inl rfl)) (pgs_cons (pg_name (i := 10) sc_levels_of.nd rfl (Or.inl rfl)) pgs_nil)))
       (pss_one (ps_if (pt_cmpR (op_notInN hr.units) (pv 10) (pv 4) rfl)
       (pss_cons (ps_asg pe_bl (pg_sub (pv 4) (pv 10) (set_N hr.units)))
       (pss_one (ps_expr (pe_bm PySem.F.plainAttrs_list PySem.F.slot_list_append PySem.F.type_list_append mt_append (pv 7) (pa_cons (pv 10) pa_nil)))))
       pss_nil)))))
       (pss_cons (ps_set (i := 5) sc_levels_of.nd rfl (Or.inl rfl) (pv 7))
       (pss_one (ps_expr (pe_bm PySem.F.plainAttrs_list PySem.F.slot_list_append PySem.F.type_list_append mt_append (pv 6) (pa_cons (pe_b (cr_sortedN rfl hr.units) T.b_sorted (pa_cons (pv 4) pa_nil)) pa_nil))))))))
       (pss_one (ps_ret (pv 6)))))))))), ?_⟩
    have hN := fun (cs : List Cf) (nd : cs.Nodup) (hr : ∀ c ∈ cs, Reach m n (relHas rels) c) => Nat.le_trans (few_cf nd fun c hc => (hr c hc).ok g.ok g.n1) g.small
    refine ⟨_, rfl, _, rfl, fun p dx np ndx ndp => ?_⟩
    have s1 : Same H (upd (upd H dx (.own p)) p (.ins (He.ga K "Place") dx [])) := fun b o e => by
      rw [upd_ne (ne_of_none e np), upd_ne (ne_of_none e ndx)]
      exact e
    have g1 := g.mono s1
    refine ⟨p, dx, sa, x, m, n, rels, rfl, upd_same, g1.mv, g1.ok, g1.ts, g1.st, g1.nd, g1.six, g1.few, fun H2 dr de k2 pk pl => ⟨rfl, ?_⟩⟩
    have s2 : Same H H2 := fun b o e => k2 _ _ (ne_of_none e np) (s1 _ _ e)
    clear s1 g1 k2
    have g2 := g.mono s2
    refine ⟨_, rfl, x, m, rfl, g2.mv, g2.ok, g2.ts, fun H3 v s3 kv => ?_⟩
    obtain ⟨dx2, st2, hd2, mk2, epl2⟩ := pl.p0
    have pk3 := pk.monoI epl2 (.of s3)
    have epl3 := s3 _ _ epl2
    have pl3 := pl.p0.mono (H' := H3) fun o e => s3 _ _ e
    have s03 := Same.tr s2 s3
    obtain ⟨av, rfl⟩ := kv.ref
    refine ⟨by show 1 ≤ sizeLine; decide, fun lv nlv => ?_⟩
    have sl := same_upd (o := .lst [.ref av]) nlv
    have el4 : (upd H3 lv (.lst [.ref av])) lv = some (.lst [.ref av]) := upd_same
    generalize upd H3 lv (.lst [.ref av]) = H4 at sl el4 ⊢
    intro kd nk0 n0 hn0
    have sk := same_upd (o := n0) nk0
    have nkd3 : H3 kd = none := by
      cases hk : H3 kd with
      | none => rfl
      | some o => rw [sl _ _ hk] at nk0; cases nk0
    refine ⟨_, rfl, lv, _, _, _, rfl, rfl, SqL.of (sk _ _ el4), rfl, upd_same, nk (0, zeros m.h), ⟨_, rfl⟩, kv.mono (Same.tupS (Same.tr sl sk)), nk_depth _, fun n1' hn1 => ?_⟩
    have sk1 : Same H4 (upd (upd H4 kd n0) kd n1') := fun b o e => by
      rw [upd_ne (ne_of_none e nk0), upd_ne (ne_of_none e nk0)]
      exact e
    generalize upd (upd H4 kd n0) kd n1' = H5 at hn1 sk1 ⊢
    refine ⟨_, rfl, _, rfl, by show 1 ≤ sizeLine; decide, fun ls nls => ?_⟩
    have ss := same_upd (o := .lst [.ref lv]) nls
    have nls3 : H3 ls = none := by
      cases hq : H3 ls with
      | none => rfl
      | some o => rw [sk1 _ _ (sl _ _ hq)] at nls; cases nls
    have nkls : kd ≠ ls := fun z => by
      obtain ⟨xs, e, _⟩ := hn1
      rw [z, nls] at e
      cases e
    have nlvls : lv ≠ ls := ne_of_none (sk1 _ _ el4) nls
    have hn6 : NdAt P w (upd H5 ls (.lst [.ref lv])) kd [nk (0, zeros m.h)] := hn1.mono (Same.tupS ss) fun o e => ss _ _ e
    have s36 : Same H3 (upd H5 ls (.lst [.ref lv])) := Same.tr sl (Same.tr sk1 ss)
    have els6 : (upd H5 ls (.lst [.ref lv])) ls = some (.lst [.ref lv]) := upd_same
    have elv6 := ss _ _ (sk1 _ _ el4)
    generalize upd H5 ls (.lst [.ref lv]) = H6 at hn6 s36 els6 elv6 ⊢
    have kv6 := kv.mono (Same.tupS s36)
    dsimp only [gName, tSeq, tAsg]
    refine while_by (fun σ H' => ∃ (t : Nat) (ks fr : List Cf) (fa : Addr) (f7 c8 u9 a10 : Option V), σ = [some x, some (.ref sa), some (.ref p), some (.ref lv), some (.ref kd), some (.ref fa), some (.ref ls), f7, c8, u9, a10] ∧ Kx p H3 H' ∧ Pl0 K H' p n dr de ∧
      NdAt P w H' kd (ks.map nk) ∧ ks.Nodup ∧ (∀ c, c ∈ ks ↔ c ∈ LL m n (relHas rels) t) ∧ (∃ as : List Addr, H' fa = some (.lst (as.map V.ref)) ∧ RefsOf H' (fr.map nk) as ∧ fa ≠ ls) ∧ (∀ c ∈ fr, c ∈ ks) ∧ (∀ c ∈ ks, c ∈ fr ∨ ∀ d ∈ nx m n (relHas rels) c, d ∈ ks) ∧
      (∀ i, i + 1 < t → (LL m n (relHas rels) (i + 1)).length ≠ (LL m n (relHas rels) i).length) ∧ ((t = 0 ∧ fr ≠ []) ∨ ∃ r, t = r + 1 ∧ (fr = [] ↔ (LL m n (relHas rels) (r + 1)).length = (LL m n (relHas rels) r).length)) ∧
      ∃ vs, H' ls = some (.lst vs) ∧ Paired (LvT ls H') vs ((List.range (t + 1)).map (LL m n (relHas rels))))
      (mu18 ls) ⟨0, [(0, zeros m.h)], [(0, zeros m.h)], lv, none, none, none, none, rfl, .of s36, pl3.mono fun o e => s36 _ _ e, hn6, by simp, fun c => by simp [LL], ⟨[av], elv6, .cons kv6 .nil, nlvls⟩, fun c h => h, fun c h => .inl h, fun i h => absurd h (Nat.not_lt_zero _), .inl ⟨rfl, by simp⟩, [.ref lv], els6, .cons ⟨lv, [av], rfl, elv6, .cons kv6 .nil, nlvls⟩ .nil⟩ ?_ ?_
    · rintro σ H' ⟨t, ks, fr, fa, f7, c8, u9, a10, rfl, k, pl', nb', nd, mem, ⟨as, efa, rfa, nfa⟩, frk, closed, gos, last, vs, els, rls⟩
      have las : (as.map V.ref).length = fr.length := by rw [List.length_map, ← paired_len rfa, List.length_map]
      have hrk : ∀ c ∈ ks, Reach m n (relHas rels) c := fun c hc => LL_reach ((mem c).mp hc)
      have few := hN ks nd hrk
      have lks : ks.length = (LL m n (relHas rels) t).length := same_len nd (LL_nodup t) mem
      have sH : Same H H' := fun b o e => k _ _ (ne_of_none e np) (s03 _ _ e)
      refine ⟨_, rfl, !(as.map V.ref).isEmpty, .inl ⟨_, SqL.of efa, rfl⟩, iteB (fun hne => ?_) (fun hem => ?_)⟩
      · have hfr : fr ≠ [] := fun z => by
          rw [z] at las
          rw [List.eq_nil_of_length_eq_zero las] at hne
          cases hne
        obtain ⟨dxp, stp, hdp, mkp, epl⟩ := id pl'
        have npk : kd ≠ p := by
          obtain ⟨xs, e, _⟩ := nb'
          exact ne_of e epl (by intro z; cases z)
        refine ⟨Nat.zero_le _, fun F nF => ?_⟩
        have sF := same_upd (o := .lst []) nF
        have eF : (upd H' F (.lst [])) F = some (.lst []) := upd_same
        generalize upd H' F (.lst []) = H7 at sF eF ⊢
        have nFp : F ≠ p := (ne_of_none epl nF).symm
        have nFk : F ≠ kd := fun z => by
          obtain ⟨xs, e, _⟩ := nb'
          rw [z, e] at nF
          cases nF
        have efa7 := sF _ _ efa
        have nfak : fa ≠ kd := by
          obtain ⟨xs, e, _⟩ := nb'
          exact ne_of efa e (by intro z; cases z)
        have nfap : fa ≠ p := ne_of efa epl (by intro z; cases z)
        have nfaF : fa ≠ F := ne_of_none efa nF
        have nb7 := nb'.mono (Same.tupS sF) fun o e => sF _ _ e
        have hrs : ∀ i, ∀ d ∈ addsC ks ((fr.take i).flatMap (nx m n (relHas rels))), Reach m n (relHas rels) d := fun i d hd => by
          rcases addsC_mem.mp hd with hd | hd
          · exact hrk d hd
          · obtain ⟨c, hc, hd⟩ := List.mem_flatMap.mp hd
            obtain ⟨pr, hp, rfl⟩ := List.mem_map.mp hd
            exact .step (hrk c (frk c (List.mem_of_mem_take hc))) hp
        refine ⟨_, rfl, fa, rfl, ⟨_, SqL.of efa7⟩, for_list (K := K) (a := fa) (xs := as.map V.ref) (fun i σ H8 => (∀ a o, a ≠ p → a ≠ kd → a ≠ F → H7 a = some o → H8 a = some o) ∧ Pl0 K H8 p n dr de ∧ NdAt P w H8 kd ((addsC ks ((fr.take i).flatMap (nx m n (relHas rels)))).map nk) ∧
          (∃ fo, ∃ fas : List Addr, addsC ks ((fr.take i).flatMap (nx m n (relHas rels))) = ks ++ fo ∧ H8 F = some (.lst (fas.map V.ref)) ∧ RefsOf H8 (fo.map nk) fas) ∧
          ∃ c8 u9 a10, σ = [some x, some (.ref sa), some (.ref p), some (.ref lv), some (.ref kd), some (.ref fa), some (.ref ls), some (.ref F), c8, u9, a10]) ⟨fun _ _ _ _ _ e => e, pl'.mono fun o e => sF _ _ e, by
            rw [List.take_zero]
            exact nb7, ⟨[], [], by rw [List.take_zero, List.append_nil]; rfl, eF, .nil⟩, _, _, _, rfl⟩ ?_ ?_ ?_⟩
        · rintro i σ H8 hi ⟨k8, _⟩
          exact SqL.of (k8 _ _ nfap nfak nfaF efa7)
        · rintro i y σ H8 hy ⟨k8, pl8, nb8, ⟨fo, fas, hfo, eF8, rF8⟩, c8, u9, a10, rfl⟩
          have tp8 : TupS H7 H8 := fun b' ys e => k8 _ _ (ne_of e (sF _ _ epl) (by intro z; cases z)) (by
            obtain ⟨xs, eb, _⟩ := nb7
            exact ne_of e eb (by intro z; cases z)) (ne_of e eF (by intro z; cases z)) e
          rw [List.getElem?_map] at hy
          cases ha : as[i]? with
          | none => rw [ha] at hy; cases hy
          | some a =>
            rw [ha] at hy
            cases hy
            have hi : i < fr.length := by
              rw [← las, List.length_map]
              exact (List.getElem?_eq_some_iff.mp ha).1
            obtain ⟨c, hc⟩ : ∃ c, fr[i]? = some c := ⟨_, List.getElem?_eq_getElem hi⟩
            have kc : KyT H8 (nk c) (.ref a) := by
              obtain ⟨a', ha', kk⟩ := refs_get rfa hc
              rw [ha] at ha'
              cases ha'
              exact kk.mono ((Same.tupS sF).trans tp8)
            have hcr := hrk c (frk c (List.mem_of_getElem? hc))
            have ck := hcr.ok g.ok g.n1
            have k38 : Kx p H3 H8 := fun b' o nbp e => by
              have e7 := sF _ _ (k _ _ nbp e)
              refine k8 _ _ nbp (ne_of_none e nkd3) (fun z => ?_) e7
              have := k _ _ nbp e
              rw [z, nF] at this
              cases this
            obtain ⟨dx8, st8, hd8, mk8, epl8⟩ := id pl8
            refine ⟨_, rfl, _, rfl, p, .ref a, m, n, rels, dr, de, c, rfl, pl8, pk3.monoI epl3 k38, kc, g.ok, ck, g.n1, g.nd, g.sees, fun H9 l vs9 k9 pl9 nl el rl => ?_⟩
            have tp9 : TupS H8 H9 := k9.tups epl8 (by intro ys z; cases z)
            have nb9 := nb8.mono tp9 fun o e => k9 _ _ npk e
            have eF9 := k9 _ _ nFp eF8
            have rF9 := refsOf_mono tp9 rF8
            have nlk : l ≠ kd := fun z => by
              obtain ⟨xs, e, _⟩ := nb8
              rw [z, e] at nl
              cases nl
            have nlF : l ≠ F := (ne_of_none eF8 nl).symm
            have lv9 : vs9.length = (nexts m n (relHas rels) c).length := paired_len rl
            have hadd : addsC ks ((fr.take (i + 1)).flatMap (nx m n (relHas rels))) = addsC (addsC ks ((fr.take i).flatMap (nx m n (relHas rels)))) (nx m n (relHas rels) c) := by
              rw [List.take_add_one, hc, List.flatMap_append, addsC_app]
              congr 1
              simp
            have hr1 := hrs i
            have nd1 : (addsC ks ((fr.take i).flatMap (nx m n (relHas rels)))).Nodup := addsC_nodup nd
            rw [hadd]
            generalize addsC ks ((fr.take i).flatMap (nx m n (relHas rels))) = ks1 at nb9 hfo hr1 nd1 ⊢
            have hr2 : ∀ j, ∀ d ∈ addsC ks1 ((nx m n (relHas rels) c).take j), Reach m n (relHas rels) d := fun j d hd => by
              rcases addsC_mem.mp hd with hd | hd
              · exact hr1 d hd
              · obtain ⟨pr, hp, rfl⟩ := List.mem_map.mp (List.mem_of_mem_take hd)
                exact .step hcr hp
            refine ⟨l, rfl, ⟨_, SqL.of el⟩, for_list (K := K) (a := l) (xs := vs9) (fun j σ H10 => (∀ a o, a ≠ kd → a ≠ F → H9 a = some o → H10 a = some o) ∧ NdAt P w H10 kd ((addsC ks1 ((nx m n (relHas rels) c).take j)).map nk) ∧
              (∃ fo, ∃ fas : List Addr, addsC ks1 ((nx m n (relHas rels) c).take j) = ks ++ fo ∧ H10 F = some (.lst (fas.map V.ref)) ∧ RefsOf H10 (fo.map nk) fas) ∧
              ∃ u9 a10, σ = [some x, some (.ref sa), some (.ref p), some (.ref lv), some (.ref kd), some (.ref fa), some (.ref ls), some (.ref F), some (.ref a), u9, a10]) ⟨fun _ _ _ _ e => e, by
                rw [List.take_zero]
                exact nb9, ⟨fo, fas, by rw [List.take_zero]; exact hfo, eF9, rF9⟩, _, _, rfl⟩ ?_ ?_ ?_⟩
            · rintro j σ H10 hj ⟨k10, _⟩
              exact SqL.of (k10 _ _ nlk nlF el)
            · rintro j y σ H10 hy ⟨k10, nb10, ⟨fo2, fas2, hfo2, eF10, rF10⟩, u9, a10, rfl⟩
              obtain ⟨pr, hpr, ty, kv2, rfl, ety, kk⟩ := paired_get rl hy
              have hd : (nx m n (relHas rels) c)[j]? = some pr.2 := by rw [List.getElem?_map, hpr]; rfl
              have tp10 : TupS H9 H10 := fun b' ys e => k10 _ _ (by
                obtain ⟨xs, eb, _⟩ := nb9
                exact ne_of e eb (by intro z; cases z)) (ne_of e eF9 (by intro z; cases z)) e
              have kk10 := kk.mono tp10
              obtain ⟨a2, rfl⟩ := kk10.ref
              have hadd2 : addsC ks1 ((nx m n (relHas rels) c).take (j + 1)) = addC (addsC ks1 ((nx m n (relHas rels) c).take j)) pr.2 := foldl_take hd
              have few2 := hN _ (addsC_nodup (cs := (nx m n (relHas rels) c).take j) nd1) (hr2 j)
              have lfo : fo2.length ≤ 2000 := by
                rw [hfo2, List.length_append] at few2
                omega
              have lfas : (fas2.map V.ref).length = fo2.length := by rw [List.length_map, ← paired_len rF10, List.length_map]
              rw [hadd2]
              generalize addsC ks1 ((nx m n (relHas rels) c).take j) = ks2 at nb10 hfo2 few2 ⊢
              refine ⟨ty, _, rfl, SqT.of (tp10 _ _ ety), rfl, _, _, rfl, _, _, rfl, rfl, ?_⟩
              refine ⟨_, rfl, _, rfl, kd, nk pr.2, _, rfl, ⟨_, rfl⟩, kk10, nk_depth _, nb10, _, rfl, ?_⟩
              have enk : nk pr.2 ∈ ks2.map nk ↔ pr.2 ∈ ks2 := by
                constructor
                · intro h
                  obtain ⟨d, hd, e⟩ := List.mem_map.mp h
                  rw [← nk_inj e]
                  exact hd
                · intro h
                  exact List.mem_map.mpr ⟨_, h, rfl⟩
              by_cases hin : pr.2 ∈ ks2
              · refine iteFb (by rw [decide_eq_true (enk.mpr hin)]; rfl) ?_
                have e2 : addC ks2 pr.2 = ks2 := if_pos hin
                rw [e2]
                exact ⟨k10, nb10, ⟨fo2, fas2, hfo2, eF10, rF10⟩, _, _, rfl⟩
              · refine iteTb (by rw [decide_eq_false (fun z => hin (enk.mp z))]; rfl) ?_
                have e2 : addC ks2 pr.2 = ks2 ++ [pr.2] := if_neg hin
                refine ⟨_, rfl, _, rfl, kd, nk pr.2, _, rfl, ⟨_, rfl⟩, kk10, nk_depth _, nb10, by rw [List.length_map, sizeLine_eq]; omega, fun n11 hn11 => ?_⟩
                rw [← nk_addC] at hn11
                have tp11 : TupS H10 (upd H10 kd n11) := tupS_upd (fun ys e => by
                  obtain ⟨xs, eb, _⟩ := nb10
                  rw [eb] at e
                  cases e)
                have eF11 := (upd_ne (o := n11) nFk).trans eF10
                have rF11 := refsOf_mono tp11 rF10
                have kk11 := kk10.mono tp11
                have k11 : ∀ a o, a ≠ kd → a ≠ F → H9 a = some o → (upd H10 kd n11) a = some o := fun a o n1 n2 e => (upd_ne n1).trans (k10 _ _ n1 n2 e)
                generalize upd H10 kd n11 = H11 at hn11 eF11 rF11 kk11 k11 ⊢
                refine ⟨_, rfl, .inl ⟨rfl, _, SqL.of eF11⟩, _, rfl, F, _, _, rfl, rfl, eF11, by rw [lfas, sizeLine_eq]; omega, ?_⟩
                have tp12 : TupS H11 (upd H11 F (.lst (fas2.map V.ref ++ [.ref a2]))) := tupS_upd (fun ys e => by rw [eF11] at e; cases e)
                refine ⟨fun a o n1 n2 e => (upd_ne n2).trans (k11 _ _ n1 n2 e), hn11.mono tp12 fun o e => (upd_ne nFk.symm).trans e, ⟨fo2 ++ [pr.2], fas2 ++ [a2], ?_, ?_, ?_⟩, _, _, rfl⟩
                · rw [e2, hfo2, List.append_assoc]
                · rw [List.map_append]
                  exact upd_same
                · rw [List.map_append]
                  exact (refsOf_mono tp12 rF11).snoc (kk11.mono tp12)
            · rintro σ H10 ⟨k10, nb10, ⟨fo2, fas2, hfo2, eF10, rF10⟩, u9, a10, rfl⟩
              have ltake : (nx m n (relHas rels) c).take vs9.length = nx m n (relHas rels) c := by
                rw [lv9]
                exact List.take_of_length_le (by rw [List.length_map]; exact Nat.le_refl _)
              rw [ltake] at nb10 hfo2
              refine ⟨fun a' o n1 n2 n3 e => k10 _ _ n2 n3 (k9 _ _ n1 (k8 _ _ n1 n2 n3 e)), ?_, nb10, ⟨fo2, fas2, hfo2, eF10, rF10⟩, _, _, _, rfl⟩
              exact pl9.p0.mono fun o e => k10 _ _ npk.symm nFp.symm e
        · rintro σ H8 ⟨k8, pl8, nb8, ⟨fo, fas, hfo, eF8, rF8⟩, c8, u9, a10, rfl⟩
          have hrs := hrs (as.map V.ref).length
          rw [las, List.take_length] at nb8 hfo hrs
          have nd8 : (addsC ks (fr.flatMap (nx m n (relHas rels)))).Nodup := addsC_nodup nd
          have few8 := hN _ nd8 hrs
          have mem8 : ∀ c, c ∈ addsC ks (fr.flatMap (nx m n (relHas rels))) ↔ c ∈ LL m n (relHas rels) (t + 1) := fun c => by
            show _ ↔ c ∈ lstep m n (relHas rels) (LL m n (relHas rels) t)
            rw [lstep_mem, addsC_mem, List.mem_flatMap]
            constructor
            · rintro (h | ⟨d, hd, h⟩)
              · exact .inl ((mem c).mp h)
              · exact .inr ⟨d, (mem d).mp (frk d hd), h⟩
            · rintro (h | ⟨d, hd, h⟩)
              · exact .inl ((mem c).mpr h)
              · rcases closed d ((mem d).mpr hd) with hf | hf
                · exact .inr ⟨d, hf, h⟩
                · exact .inl (hf c h)
          have lks8 := same_len nd8 (LL_nodup (t + 1)) mem8
          have hsort : sortC (addsC ks (fr.flatMap (nx m n (relHas rels)))) = LL m n (relHas rels) (t + 1) := by
            refine sortC_ext nd8 (addsC_nodup List.nodup_nil) fun c => ?_
            rw [mem8]
            exact sortC_mem
          have closed8 : ∀ c ∈ addsC ks (fr.flatMap (nx m n (relHas rels))), c ∈ fo ∨ ∀ d ∈ nx m n (relHas rels) c, d ∈ addsC ks (fr.flatMap (nx m n (relHas rels))) := fun c hc => by
            rw [hfo] at hc
            rcases List.mem_append.mp hc with hc | hc
            · right
              intro d hd
              rcases closed c hc with hf | hf
              · exact addsC_mem.mpr (.inr (List.mem_flatMap.mpr ⟨c, hf, hd⟩))
              · exact addsC_mem.mpr (.inl (hf d hd))
            · exact .inl hc
          have llen : fo = [] ↔ (LL m n (relHas rels) (t + 1)).length = (LL m n (relHas rels) t).length := by
            rw [← lks8, ← lks, hfo, List.length_append]
            constructor
            · intro z
              rw [z]
              rfl
            · intro z
              exact List.eq_nil_of_length_eq_zero (by omega)
          have gos' : ∀ i, i + 1 < t + 1 → (LL m n (relHas rels) (i + 1)).length ≠ (LL m n (relHas rels) i).length := fun i hi => by
            by_cases h : i + 1 < t
            · exact gos i h
            · rcases last with ⟨h0, _⟩ | ⟨r, hr, hiff⟩
              · omega
              · have : i = r := by omega
                subst this
                exact fun e => hfr (hiff.mpr e)
          have fofo : ∀ c ∈ fo, c ∈ addsC ks (fr.flatMap (nx m n (relHas rels))) := fun c hc => by
            rw [hfo]
            exact List.mem_append_right _ hc
          have tp8 : TupS H7 H8 := fun b' ys e => k8 _ _ (ne_of e (sF _ _ epl) (by intro z; cases z)) (by
            obtain ⟨xs, eb, _⟩ := nb7
            exact ne_of e eb (by intro z; cases z)) (ne_of e eF (by intro z; cases z)) e
          have nlsp : ls ≠ p := ne_of els epl (by intro z; cases z)
          have nlsF : ls ≠ F := ne_of_none els nF
          have els8 := k8 _ _ nlsp nkls.symm nlsF (sF _ _ els)
          have lvs : vs.length = t + 1 := by rw [paired_len rls, List.length_map, List.length_range]
          have grow := LL_grow (m := m) (n := n) (R := relHas rels) (r := t) (fun i hi => gos' i (by omega)) t (Nat.le_refl _)
          have fewt := LL_few (R := relHas rels) g.ok g.n1 t
          have small := g.small
          generalize addsC ks (fr.flatMap (nx m n (relHas rels))) = ks' at nb8 hfo few8 nd8 mem8 hsort closed8 fofo lks8 hrs
          refine ⟨_, rfl, _, rfl, .inl ⟨rfl, _, SqL.of els8⟩, _, rfl, kd, ks'.map nk, rfl, nb8, keysOk_nk ks', by rw [List.length_map]; omega, fun sp sas nsp rsp => ?_⟩
          have s9 := same_upd (o := .lst (sas.map V.ref)) nsp
          have e9 : (upd H8 sp (.lst (sas.map V.ref))) sp = _ := upd_same
          have els9 := s9 _ _ els8
          refine ⟨ls, _, _, rfl, rfl, els9, by rw [lvs, sizeLine_eq]; omega, ?_⟩
          have nspls : sp ≠ ls := (ne_of_none els8 nsp).symm
          have tp9 : TupS H8 (upd (upd H8 sp (.lst (sas.map V.ref))) ls (.lst (vs ++ [.ref sp]))) := (Same.tupS s9).trans (tupS_upd (fun ys e => by rw [els9] at e; cases e))
          have k9 : ∀ a o, a ≠ ls → H8 a = some o → (upd (upd H8 sp (.lst (sas.map V.ref))) ls (.lst (vs ++ [.ref sp]))) a = some o := fun a o n1 e => (upd_ne n1).trans (s9 _ _ e)
          have els10 : (upd (upd H8 sp (.lst (sas.map V.ref))) ls (.lst (vs ++ [.ref sp]))) ls = _ := upd_same
          have esp10 : (upd (upd H8 sp (.lst (sas.map V.ref))) ls (.lst (vs ++ [.ref sp]))) sp = _ := (upd_ne nspls).trans e9
          generalize upd (upd H8 sp (.lst (sas.map V.ref))) ls (.lst (vs ++ [.ref sp])) = H10 at tp9 k9 els10 esp10 ⊢
          refine ⟨⟨t + 1, ks', fo, F, some (.ref F), c8, u9, a10, rfl, fun b' o nbp e => ?_, pl8.mono fun o e => k9 _ _ nlsp.symm e, nb8.mono tp9 fun o e => k9 _ _ nkls e, nd8, mem8, ⟨fas, k9 _ _ nlsF.symm eF8, refsOf_mono tp9 rF8, nlsF.symm⟩, fofo, closed8, gos', .inr ⟨t, rfl, llen⟩, vs ++ [.ref sp], els10, ?_⟩, ?_⟩
          · have e7 := sF _ _ (k _ _ nbp e)
            refine k9 _ _ (ne_of_none e nls3) (k8 _ _ nbp (ne_of_none e nkd3) (fun z => ?_) e7)
            have := k _ _ nbp e
            rw [z, nF] at this
            cases this
          · rw [List.range_succ, List.map_append]
            refine Paired.snoc (Paired.mapP rls fun v L z => ?_) ⟨sp, sas, rfl, esp10, ?_, nspls⟩
            · obtain ⟨a', as', rfl, e1, r1, n1⟩ := z
              refine ⟨a', as', rfl, k9 _ _ n1 (k8 _ _ (ne_of e1 epl (by intro z; cases z)) ?_ (ne_of_none e1 nF) (sF _ _ e1)), refsOf_mono (((Same.tupS sF).trans tp8).trans tp9) r1, n1⟩
              obtain ⟨xs, eb, _⟩ := nb'
              exact ne_of e1 eb (by intro z; cases z)
            · rw [← sortC_nk, hsort] at rsp
              exact refsOf_mono tp9 rsp
          · show mu18 ls _ H10 < mu18 ls _ H'
            unfold mu18
            rw [els10, els]
            show 2003 - (vs ++ [V.ref sp]).length < 2003 - vs.length
            rw [List.length_append, List.length_singleton, lvs]
            omega
      · have hfr : fr = [] := by
          refine List.eq_nil_of_length_eq_zero ?_
          rw [← las]
          cases h : as.map V.ref with
          | nil => rfl
          | cons y l => rw [h] at hem; cases hem
        rcases last with ⟨_, h0⟩ | ⟨r, hr, hiff⟩
        · exact absurd hfr h0
        · subst hr
          refine ⟨_, rfl, q H' ls r sH ⟨hiff.mp hfr, fun i hi => gos i (by omega)⟩ (.lst els ?_)⟩
          exact lvT_dv rls
    · rintro σ H' Q Q' f ⟨_, h1, _, h2, h3⟩
      exact ⟨_, h1, _, h2, f _ _ h3⟩
end K54
set_option Elab.async false
set_option linter.all false
set_option maxRecDepth 100000
set_option maxHeartbeats 4000000
set_option pp.maxSteps 800
namespace K54
open PySem PySem.Spec PyProof.Rows L2
def tNoT : TT := fun _ _ _ => False
theorem pt_no {X : Cx} {e : Expr} : PT X e tNoT := ⟨fun _ _ _ _ _ _ h => h.elim⟩
variable {P : Program} {w : World} {K : PySem.W.Frag} {mg : Str → Option Value} {base : Heap}
def isNil : PyData → Bool
  | .tuple [] => true
  | _ => false
def isConf (m : Mach) (n : Nat) (d : PyData) : Bool := match d with
  | .tuple [a, b, c] => isBelow a m.st && isRow b n m.h && isNil c
  | _ => false
theorem isConf_len {m : Mach} {n : Nat} {ds : List PyData} (h : ds.length ≠ 3) : isConf m n (.tuple ds) = false := by
  match ds, h with
  | [], _ => rfl
  | [_], _ => rfl
  | [_, _], _ => rfl
  | [_, _, _], h => exact absurd rfl h
  | _ :: _ :: _ :: _ :: _, _ => rfl
def spIsConf (K : PySem.W.Frag) : Sp := fun vs H Q _ => ∃ (x v : V) (s : Addr) (m : Mach) (n : Nat) (rels : List Rl) (d : PyData), vs = [x, .ref s, v] ∧ Dv H x (machD m) ∧ m.ts = [] ∧ StrAt K H s n rels ∧ Dv H v d ∧ ∀ H', Same H H' → Q (.bl (isConf m n d)) H'
theorem sc_is_configuration : FnScope ["machine", "structure", "value", "arity", "cells", "last", "cell"] ["machine", "structure", "value"] (defScope s_is_configuration) := ⟨rfl, rfl, rfl, by decide +kernel, rfl, by decide +kernel, by decide +kernel⟩
theorem d_is_configuration (T : Txt w K mg) : Def P w K mg base CX0 4 ("is_configuration", none) ["machine", "structure", "value"] (spIsConf K) := by
  refine Def.of0 (k := 3) T.f_is_configuration sc_is_configuration (fun _ _ _ _ _ _ us hl => match us, hl with | [_, _, _], _ => rfl) (fun vs H Q E h => ?_) (fun cdv A outer s H vs Q E hr h => ?_)
  · obtain ⟨x, v, sa, m, n, rels, d, rfl, _⟩ := h
    rfl
  · obtain ⟨x, v, sa, m, n, rels, d, rfl, hm, hts, hs, hv, q⟩ := h
    refine ⟨_, ((pss_cons (ps_if (PW.pt (pw_or (pt_not (pt_val (pe_b call_isD T.b_isinstance (pa_cons (pv 2) (pa_cons (pe_tyv (T := "tuple") T.b_tuple) pa_nil))))) (pw_or (pt_cmpR op_ne (pe_b call_len_seq T.b_len (pa_cons (pv 2) pa_nil)) pe_int (nomark _)) (pw_or1 (pt_not (pt_val (pe_f (d_is_below T) (hr.mono (by decide)) T.g_is_below pass0 (pa_cons (pe_ix ix_tup (pv 2) pe_int (fun _ _ => rfl)) (pa_cons (pe_ix ix_tup (pv 0) pe_int (fun _ _ => rfl)) pa_nil)))))))))
       (pss_one (ps_ret pe_bl))
       pss_nil)
       (pss_cons (ps_if (pt_not (pt_val (pe_f (d_is_row T) (hr.mono (by decide)) T.g_is_row pass0 (pa_cons (pe_ix ix_tup (pv 2) pe_int (fun _ _ => rfl)) (pa_cons (pe_fld (pv 1) rfl) (pa_cons (pe_ix ix_tup (pv 0) pe_int (fun _ _ => rfl)) pa_nil))))))
       (pss_one (ps_ret pe_bl))
       pss_nil)
       (pss_cons (ps_if (PW.pt (pw_or (pt_not (pt_val (pe_b call_isD T.b_isinstance (pa_cons (pe_ix ix_tup (pv 2) pe_int (fun _ _ => rfl)) (pa_cons (pe_tyv (T := "tuple") T.b_tuple) pa_nil))))) (pw_or1 (pt_cmpR op_ne (pe_b call_len_seq T.b_len (pa_cons (pe_ix ix_tup (pv 2) pe_int (fun _ _ => rfl)) pa_nil)) (pe_b call_len_seq T.b_len (pa_cons (pe_ix ix_tup (pv 0) pe_int (fun _ _ => rfl)) pa_nil)) (nomark _)))))
       (pss_one (ps_ret pe_bl))
       pss_nil)
       (pss_cons (ps_for PassesOwn.never rfl (RZ.pi_zipA (by rfl) T.b_zip (pa_cons (pe_ix ix_tup (pv 0) pe_int (fun _ _ => rfl)) (pa_cons (pe_ix ix_tup (pv 2) pe_int (fun _ _ => rfl)) pa_nil))) (pg_tup rfl (pgs_cons (pg_name (i := 3) sc_is_configuration.nd rfl (Or.inl rfl)) (pgs_cons (pg_name (i := 4) sc_is_configuration.nd rfl (Or.inl rfl)) pgs_nil)))
       (pss_cons (ps_if (pt_not (pt_val (pe_b call_isD T.b_isinstance (pa_cons (pv 4) (pa_cons (pe_tyv (T := "tuple") T.b_tuple) pa_nil)))))
       (pss_one (ps_ret pe_bl))
       pss_nil)
       (pss_cons (ps_set (i := 5) sc_is_configuration.nd rfl (Or.inl rfl) pe_non)
       (pss_one (ps_for PassesOwn.never rfl (pi_tup (pv 4)) (pg_name (i := 6) sc_is_configuration.nd rfl (Or.inl rfl))
       (pss_cons (ps_if (PW.pt (pw_or (pt_not (pt_val (pe_f (d_is_row T) (hr.mono (by decide)) T.g_is_row pass0 (pa_cons (pv 6) (pa_cons (pe_fld (pv 1) rfl) (pa_cons (pv 3) pa_nil)))))) (pw_or1 (PW.pt (pw_and (pt_cmpR op_notN (pv 5) pe_non (nomark _)) (pw_and1 pt_no))))))
       (pss_one (ps_ret pe_bl))
       pss_nil)
       (pss_one (ps_set (i := 5) sc_is_configuration.nd rfl (Or.inl rfl) (pv 6)))))))))
       (pss_one (ps_ret pe_bl))))))), ?_⟩
    obtain ⟨a, c, dd, ys, rfl, e1, e2, e3, q3⟩ := mach_inv hm
    obtain ⟨dx, l, rs, f1, f2, f3⟩ := hs
    have q := q H Same.rf
    refine ⟨_, rfl, v, d, "tuple", rfl, by decide, hv, _, rfl, ?_⟩
    cases hv with
    | @tup b xs ds e r =>
      have lx := r.len
      refine iteF ⟨_, rfl, b, xs, rfl, .inr (SqT.of e), rfl, _, rfl, ?_⟩
      by_cases hl : ds.length = 3
      · refine iteFb (by rw [dec_int, lx, hl]; rfl) ?_
        match ds, hl, r with
        | [da, db, dc], _, r =>
          obtain ⟨x1, _, rfl, r1, r⟩ := r.cons_inv
          obtain ⟨x2, _, rfl, r2, r⟩ := r.cons_inv
          obtain ⟨x3, _, rfl, r3, r⟩ := r.cons_inv
          cases r.nil_inv
          have q : Q (.bl (isBelow da m.st && isRow db n m.h && isNil dc)) H := q
          refine ⟨_, rfl, _, _, (0 : Int), _, rfl, rfl, SqT.of e, rfl, _, rfl, _, _, (2 : Int), _, rfl, rfl, SqT.of e1, rfl, x1, da, m.st, rfl, r1, _, rfl, ?_⟩
          cases hb : isBelow da m.st with
          | false =>
            rw [hb] at q
            exact iteTb rfl q
          | true =>
            rw [hb] at q
            refine iteFb rfl ?_
            refine ⟨_, rfl, _, _, (1 : Int), _, rfl, rfl, SqT.of e, rfl, ?_⟩
            refine ⟨_, rfl, sa, _, dx, _, _, rfl, f1, T.c_Structure, T.n_Structure_size, strF_size _ _, ?_⟩
            refine ⟨_, rfl, _, _, (0 : Int), _, rfl, rfl, SqT.of e1, rfl, x2, db, n, m.h, rfl, r2, _, rfl, ?_⟩
            cases hb2 : isRow db n m.h with
            | false =>
              rw [hb2] at q
              exact iteTb rfl q
            | true =>
              rw [hb2] at q
              refine iteFb rfl ?_
              refine ⟨_, rfl, _, _, (2 : Int), _, rfl, rfl, SqT.of e, rfl, x3, dc, "tuple", rfl, by decide, r3, _, rfl, ?_⟩
              cases r3 with
              | @tup b3 xs3 ds3 e4 r4 =>
                refine iteF ⟨_, rfl, _, _, (2 : Int), _, rfl, rfl, SqT.of e, rfl, b3, xs3, rfl, .inr (SqT.of e4), _, rfl, _, _, (1 : Int), _, rfl, rfl, SqT.of e1, rfl, c, _, rfl, .inr (SqT.of e2), rfl, _, rfl, ?_⟩
                rw [hts]
                cases ds3 with
                | nil =>
                  cases r4.nil_inv
                  refine iteFb rfl ?_
                  refine ⟨_, rfl, _, _, (1 : Int), _, rfl, rfl, SqT.of e1, rfl, _, rfl, _, _, (2 : Int), _, rfl, rfl, SqT.of e, rfl, c, b3, m.ts.map vInt, [], rfl, .inr ⟨SqT.of e2, SqT.of e4, RZ.for_zipT (K := K) (a := c) (b := b3) (xs := m.ts.map vInt) (ys := []) (by rw [hts]; rfl) (fun i σ H' => H' = H) rfl ?_ ?_ ?_⟩⟩
                  · rintro i σ H' rfl
                    exact ⟨SqT.of e2, SqT.of e4⟩
                  · rintro i y z t σ H' hy hz
                    cases hz
                  · rintro σ H' rfl
                    exact q
                | cons d0 dr =>
                  refine iteTb ?_ q
                  have := r4.len
                  rw [List.length_cons] at this
                  rw [dec_int, this]
                  simp
                  omega
              | _ => exact q
      · rw [isConf_len hl] at q
        exact iteTb (by rw [dec_int, lx, beq_eq_false_iff_ne.mpr (by omega)]; rfl) q
    | _ => exact q
def isLvl (m : Mach) (n : Nat) : PyData → Bool
  | .list cs => cs.all (isConf m n)
  | _ => false
def areLv (m : Mach) (n : Nat) : PyData → Bool
  | .list Ls => Ls.all (isLvl m n)
  | _ => false
def spAreLv (K : PySem.W.Frag) : Sp := fun vs H Q _ => ∃ (x v : V) (s : Addr) (m : Mach) (n : Nat) (rels : List Rl) (d : PyData), vs = [x, .ref s, v] ∧ Dv H x (machD m) ∧ m.ts = [] ∧ StrAt K H s n rels ∧ Dv H v d ∧ ∀ H', Same H H' → Q (.bl (areLv m n d)) H'
theorem sc_are_levels : FnScope ["machine", "structure", "levels", "level", "configuration"] ["machine", "structure", "levels"] (defScope s_are_levels) := ⟨rfl, rfl, rfl, by decide +kernel, rfl, by decide +kernel, by decide +kernel⟩
theorem d_are_levels (T : Txt w K mg) : Def P w K mg base CX0 5 ("are_levels", none) ["machine", "structure", "levels"] (spAreLv K) := by
  refine Def.of0 (k := 4) T.f_are_levels sc_are_levels (fun _ _ _ _ _ _ us hl => match us, hl with | [_, _, _], _ => rfl) (fun vs H Q E h => ?_) (fun cdv A outer s H vs Q E hr h => ?_)
  · obtain ⟨x, v, sa, m, n, rels, d, rfl, _⟩ := h
    rfl
  · obtain ⟨x, v, sa, m, n, rels, d, rfl, hm, hts, hs, hv, q⟩ := h
    refine ⟨_, ((pss_cons (ps_if (pt_not (pt_val (pe_b call_isD T.b_isinstance (pa_cons (pv 2) (pa_cons (pe_tyv (T := "list") T.b_list) pa_nil)))))
       (pss_one (ps_ret pe_bl))
       pss_nil)
       (pss_cons (ps_for PassesOwn.never rfl (pi_list (pv 2)) (pg_name (i := 3) sc_are_levels.nd rfl (Or.inl rfl))
       (pss_cons (ps_if (pt_not (pt_val (pe_b call_isD T.b_isinstance (pa_cons (pv 3) (pa_cons (pe_tyv (T := "list") T.b_list) pa_nil)))))
       (pss_one (ps_ret pe_bl))
       pss_nil)
       (pss_one (ps_for PassesOwn.never rfl (pi_list (pv 3)) (pg_name (i := 4) sc_are_levels.nd rfl (Or.inl rfl))
       (pss_one (ps_if (pt_not (pt_val (pe_f (d_is_configuration T) (hr.mono (by decide)) T.g_is_configuration pass0 (pa_cons (pv 0) (pa_cons (pv 1) (pa_cons (pv 4) pa_nil))))))
       (pss_one (ps_ret pe_bl))
       pss_nil))))))
       (pss_one (ps_ret pe_bl))))), ?_⟩
    refine ⟨_, rfl, v, d, "list", rfl, by decide, hv, _, rfl, ?_⟩
    cases hv with
    | @lst b xs Ls e r =>
      have lx := r.len
      refine iteF ?_
      refine ⟨_, rfl, b, rfl, ⟨_, SqL.of e⟩, for_list (K := K) (a := b) (xs := xs) (fun i σ H' => Same H H' ∧ (∃ u v, σ = [some x, some (.ref sa), some (.ref b), u, v]) ∧ (Ls.take i).all (isLvl m n) = true) ⟨Same.rf, ⟨_, _, rfl⟩, rfl⟩ ?_ ?_ ?_⟩
      · rintro i σ H' hi ⟨s1, _⟩
        exact SqL.of (s1 _ _ e)
      · rintro i y σ H1 hy ⟨s1, ⟨u, v, rfl⟩, ha⟩
        obtain ⟨d1, hd1, rd1⟩ := r.at hy
        have rd1 := rd1.mono s1
        refine ⟨_, rfl, y, d1, "list", rfl, by decide, rd1, _, rfl, ?_⟩
        cases rd1 with
        | @lst b1 xs1 cs e1 r1 =>
          have lx1 := r1.len
          refine iteFb rfl ?_
          refine ⟨_, rfl, b1, rfl, ⟨_, SqL.of e1⟩, for_list (K := K) (a := b1) (xs := xs1) (fun j σ H' => Same H1 H' ∧ (∃ v, σ = [some x, some (.ref sa), some (.ref b), some (.ref b1), v]) ∧ (cs.take j).all (isConf m n) = true) ⟨Same.rf, ⟨_, rfl⟩, rfl⟩ ?_ ?_ ?_⟩
          · rintro j σ H' hj ⟨s2, _⟩
            exact SqL.of (s2 _ _ e1)
          · rintro j z σ H2 hz ⟨s2, ⟨v, rfl⟩, ha2⟩
            obtain ⟨d2, hd2, rd2⟩ := r1.at hz
            have s12 := Same.tr s1 s2
            refine ⟨_, rfl, _, rfl, _, rfl, x, z, sa, m, n, rels, d2, rfl, hm.mono s12, hts, hs.mono s12, rd2.mono s2, fun H3 s3 => ⟨_, rfl, ?_⟩⟩
            cases hb : isConf m n d2 with
            | true => exact iteFb rfl ⟨Same.tr s2 s3, ⟨_, rfl⟩, by rw [all_take ha2 hd2]; exact hb⟩
            | false =>
              refine iteTb rfl ?_
              have q := q H3 (Same.tr s12 s3)
              have : areLv m n (.list Ls) = false := all_at hd1 (show isLvl m n (.list cs) = false from all_at hd2 hb)
              rw [this] at q
              exact q
          · rintro σ H2 ⟨s2, ⟨v, rfl⟩, ha2⟩
            rw [lx1, List.take_length] at ha2
            exact ⟨Same.tr s1 s2, ⟨_, _, rfl⟩, by rw [all_take ha hd1]; exact ha2⟩
        | _ =>
          refine iteTb rfl ?_
          have q := q H1 s1
          rw [show areLv m n (.list Ls) = false from all_at hd1 rfl] at q
          exact q
      · rintro σ H1 ⟨s1, ⟨u, v, rfl⟩, ha⟩
        rw [lx, List.take_length] at ha
        have q := q H1 s1
        rw [show areLv m n (.list Ls) = true from ha] at q
        exact q
    | _ => exact q H Same.rf
end K54
set_option Elab.async false
set_option linter.all false
set_option maxRecDepth 100000
set_option maxHeartbeats 4000000
set_option pp.maxSteps 800
namespace K54
open PySem PySem.Spec PyProof.Rows L2
variable {P : Program} {w : World} {K : PySem.W.Frag} {mg : Str → Option Value} {base : Heap}
theorem isBelow_int {d : PyData} {b : Int} (h : isBelow d b = true) : ∃ i, d = .int i := by
  cases d with
  | int i => exact ⟨i, rfl⟩
  | _ => cases h
theorem layN_row {d : PyData} {n : Int} {k : Nat} (h : isRow d n k = true) : LayN 1 d := by
  cases d with
  | tuple ds =>
    have h : (decide (ds.length = k) && ds.all fun x => isBelow x n) = true := h
    rw [Bool.and_eq_true] at h
    refine .tuple fun x hx => ?_
    obtain ⟨i, rfl⟩ := isBelow_int (List.all_eq_true.mp h.2 x hx)
    exact .int i
  | _ => cases h
theorem isNil_eq {d : PyData} (h : isNil d = true) : d = .tuple [] := by
  cases d with
  | tuple ds =>
    cases ds with
    | nil => rfl
    | cons a l => cases h
  | _ => cases h
theorem layN_conf {m : Mach} {n : Nat} {d : PyData} (h : isConf m n d = true) : LayN 2 d := by
  cases d with
  | tuple ds =>
    by_cases hl : ds.length = 3
    · match ds, hl with
      | [a, b, c], _ =>
        have h : (isBelow a m.st && isRow b n m.h && isNil c) = true := h
        rw [Bool.and_eq_true, Bool.and_eq_true] at h
        obtain ⟨i, rfl⟩ := isBelow_int h.1.1
        have h2 := layN_row h.1.2
        obtain rfl := isNil_eq h.2
        refine .tuple fun x hx => ?_
        simp only [List.mem_cons, List.not_mem_nil, or_false] at hx
        rcases hx with rfl | rfl | rfl
        · exact .int i
        · exact h2
        · exact LayN.tuple (n := 0) (fun x hx => by cases hx)
    · rw [isConf_len hl] at h
      cases h
  | _ => cases h
theorem layN_lv {m : Mach} {n : Nat} {d : PyData} (h : areLv m n d = true) : LayN 4 d := by
  cases d with
  | list Ls =>
    refine .list fun x hx => ?_
    have h := List.all_eq_true.mp (show Ls.all (isLvl m n) = true from h) x hx
    cases x with
    | list cs => exact .list fun y hy => layN_conf (List.all_eq_true.mp (show cs.all (isConf m n) = true from h) y hy)
    | _ => cases h
  | _ => cases h
theorem isConf_cf {m : Mach} {n : Nat} {c : Cf} (h : CfOk m n c) : isConf m n (cfD c) = true := by
  show (isBelow (.int c.1) m.st && isRow (.tuple (c.2.map .int)) n m.h && isNil (.tuple [])) = true
  rw [row_ok h.len h.pos]
  have := below_nat h.q
  show (isBelow (dInt c.1) m.st && true && true) = true
  rw [this]
  rfl
theorem areLv_lvls {m : Mach} {n : Nat} {R : Nm → List Int → Bool} (ok : MachOk m) (n1 : 1 ≤ n) (r : Nat) : areLv m n (.list ((lvls m n R r).map lvD)) = true := by
  show ((lvls m n R r).map lvD).all (isLvl m n) = true
  rw [List.all_map, List.all_eq_true]
  intro L hL
  obtain ⟨i, _, rfl⟩ := List.mem_map.mp hL
  show ((LL m n R i).map cfD).all (isConf m n) = true
  rw [List.all_map, List.all_eq_true]
  intro c hc
  exact isConf_cf ((LL_reach hc).ok ok n1)
structure Pre (K : PySem.W.Frag) (H : Hp) (x : V) (s : Addr) (m : Mach) (n : Nat) (rels : List Rl) : Prop where
  mv : Dv H x (machD m)
  ok : MachOk m
  st : StrAt K H s n rels
  nd : (rels.map Rl.z).Nodup
  six : rels.length ≤ 6
  few : ∀ r ∈ rels, r.ks.length < 64
  n1 : 1 ≤ n
  n16 : n ≤ 16
theorem Pre.mono {H H' : Hp} {x : V} {s : Addr} {m : Mach} {n : Nat} {rels : List Rl} (g : Pre K H x s m n rels) (e : Same H H') : Pre K H' x s m n rels :=
  ⟨g.mv.mono e, g.ok, g.st.mono e, g.nd, g.six, g.few, g.n1, g.n16⟩
theorem nmAdd_sub {zs : List Nm} {c : Cond} {z : Nm} (h : z ∈ zs) : z ∈ nmAdd zs c := by
  unfold nmAdd
  split
  · split
    · exact h
    · exact List.mem_append_left _ h
  · exact h
theorem nmAdds_sub {cs : List Cond} {z : Nm} : ∀ {zs : List Nm}, z ∈ zs → z ∈ nmAdds zs cs := by
  induction cs with
  | nil => exact fun h => h
  | cons c cs ih => exact fun h => ih (nmAdd_sub h)
theorem nmAdds_has {cs : List Cond} {z : Nm} {is : List Nat} {f : Bool} (h : Cond.rel z is f ∈ cs) : ∀ {zs : List Nm}, z ∈ nmAdds zs cs := by
  induction cs with
  | nil => cases h
  | cons c cs ih =>
    intro zs
    rcases List.mem_cons.mp h with rfl | h
    · refine nmAdds_sub (cs := cs) ?_
      show z ∈ (if z ∈ zs then zs else zs ++ [z])
      split
      · assumption
      · simp
    · exact ih h
theorem nmOf_has {rs : List Rule} {r : Rule} {z : Nm} {is : List Nat} {f : Bool} (hr : r ∈ rs) (h : Cond.rel z is f ∈ r.cs) : ∀ {zs : List Nm}, z ∈ rs.foldl (fun zs r => nmAdds zs r.cs) zs := by
  have sub : ∀ {rs : List Rule} {zs : List Nm}, z ∈ zs → z ∈ rs.foldl (fun zs r => nmAdds zs r.cs) zs := by
    intro rs
    induction rs with
    | nil => exact fun h => h
    | cons r rs ih => exact fun h => ih (nmAdds_sub h)
  induction rs with
  | nil => cases hr
  | cons r0 rs ih =>
    intro zs
    rcases List.mem_cons.mp hr with rfl | hr
    · exact sub (rs := rs) (nmAdds_has h)
    · exact ih hr
theorem sees_of {m : Mach} {rels : List Rl} (h : fits m rels = true) : Sees m rels := fun r hr z is f hc => by
  unfold fits at h
  obtain ⟨rl, h1, h2⟩ := List.any_eq_true.mp (List.all_eq_true.mp h z (nmOf_has hr hc))
  rw [Bool.and_eq_true, decide_eq_true_eq] at h2
  exact ⟨rl, h1, h2.1⟩
theorem Pre.good {H : Hp} {x : V} {s : Addr} {m : Mach} {n : Nat} {rels : List Rl} (g : Pre K H x s m n rels) (ht : m.ts = []) (hf : fits m rels = true) (hs : m.st * n ^ m.h ≤ 2000) : Good K H x s m n rels :=
  ⟨g.mv, g.ok, ht, g.st, g.nd, g.six, g.few, sees_of hf, g.n1, g.n16, hs⟩
theorem small_iff {m : Mach} {n : Nat} : ((m.st : Int) * (n : Int) ^ m.h ≤ 2000) ↔ m.st * n ^ m.h ≤ 2000 := by
  have e : (m.st : Int) * (n : Int) ^ m.h = ((m.st * n ^ m.h : Nat) : Int) := by
    rw [Int.natCast_mul, Int.natCast_pow]
  rw [e]
  omega
def Fails (K : PySem.W.Frag) (m : Mach) (n : Nat) (rels : List Rl) (E : XK) (H' : Hp) : Prop :=
  (m.ts ≠ [] → E (.ref (He.ga K "BadArgument")) none H') ∧ (m.ts = [] → fits m rels = false → E (.ref (He.ga K "NotFitting")) none H') ∧ (m.ts = [] → fits m rels = true → ¬ m.st * n ^ m.h ≤ 2000 → E (.ref (He.ga K "TooLarge")) none H')
def spRefusal (K : PySem.W.Frag) : Sp := fun vs H Q E => ∃ (x : V) (s : Addr) (m : Mach) (n : Nat) (rels : List Rl), vs = [x, .ref s] ∧ Pre K H x s m n rels ∧ ∀ H', Same H H' → Fails K m n rels E H' ∧
  (m.ts = [] → fits m rels = true → m.st * n ^ m.h ≤ 2000 → (Accepts m n (relHas rels) → Q .non H') ∧ ∀ l r, ¬ Accepts m n (relHas rels) → IsLv m n (relHas rels) r → Dv H' (.ref l) (.list ((lvls m n (relHas rels) r).map lvD)) → Q (.ref l) H')
theorem sc_refusal : FnScope ["machine", "structure"] ["machine", "structure"] (defScope s_refusal) := ⟨rfl, rfl, rfl, by decide +kernel, rfl, by decide +kernel, by decide +kernel⟩
theorem d_refusal (T : Txt w K mg) : Def P w K mg base (L2.CX P w) 11 ("refusal", none) ["machine", "structure"] (spRefusal K) := by
  refine Def.of (k := 10) T.f_refusal sc_refusal (fun _ _ _ _ _ _ us hl => match us, hl with | [_, _], _ => rfl) (fun vs H Q E h => ?_) (fun cdv A outer s H vs Q E hr h => ?_)
  · obtain ⟨x, sa, m, n, rels, rfl, _⟩ := h
    rfl
  · obtain ⟨x, sa, m, n, rels, rfl, g, q⟩ := h
    refine ⟨_, ((pss_cons (ps_expr (pe_f (d_check_headed T) (hr.mono (by decide)) T.g_check_headed (passes_call (takes_of rfl rfl rfl rfl) (fun _ _ _ _ h => h)) (pa_cons (pv 0) pa_nil)))
       (pss_cons (ps_expr (pe_f (d_check_places T) (hr.mono (by decide)) T.g_check_places (passes_call (takes_of rfl rfl rfl rfl) (fun _ _ _ _ h => h)) (pa_cons (pv 0) (pa_cons (pv 1) (pa_cons (pe_gi T.i_FEWER) pa_nil)))))
       (pss_cons (ps_if (pt_cmpR op_notN (pe_ix ix_tup (pe_f (d_reached T) (hr.mono (by decide)) T.g_reached pass0 (pa_cons (pv 0) (pa_cons (pv 1) pa_nil))) pe_int (fun _ _ => rfl)) pe_non (nomark _))
       (pss_one (ps_ret pe_non))
       pss_nil)
       (pss_one (ps_ret (pe_f (d_levels_of T) (hr.mono (by decide)) T.g_levels_of pass0 (pa_cons (pv 0) (pa_cons (pv 1) pa_nil))))))))), ?_⟩
    have := g.n16
    refine ⟨_, rfl, x, m, rfl, g.mv, g.ok, fun H1 s1 => ⟨fun ht => ?_, fun ht => (q H1 s1).1.1 ht⟩⟩
    have g1 := g.mono s1
    refine ⟨_, rfl, _, rfl, x, m, sa, n, rels, 2000, rfl, g1.mv, g1.ok, g1.st, g1.six, by omega, fun H2 s2 => ?_⟩
    have s02 := Same.tr s1 s2
    have q2 := q H2 s02
    refine ⟨fun hf hsm => ?_, fun hf hsm => q2.1.2.2 ht hf (fun z => hsm (small_iff.mpr z)), fun hf => q2.1.2.1 ht hf⟩
    have hsm := small_iff.mp hsm
    have g2 := (g.mono s02).good ht hf hsm
    refine ⟨_, rfl, _, rfl, x, sa, m, n, rels, rfl, g2, fun H3 t b v s3 et hv => ?_⟩
    have s03 := Same.tr s02 s3
    have q3 := (q H3 s03).2 ht hf hsm
    refine ⟨t, _, (1 : Int), _, rfl, rfl, SqT.of et, rfl, rfl, _, rfl, ?_⟩
    rcases hv with ⟨rfl, hacc⟩ | ⟨⟨a, rfl⟩, hacc⟩
    · refine iteFb rfl ?_
      refine ⟨_, rfl, _, rfl, x, sa, m, n, rels, rfl, g2.mono s3, fun H4 l r s4 hr hd => ?_⟩
      exact ((q H4 (Same.tr s03 s4)).2 ht hf hsm).2 l r hacc hr hd
    · exact iteTb rfl (q3.1 hacc)
def IsRef (m : Mach) (n : Nat) (R : Nm → List Int → Bool) (d : PyData) : Prop := areLv m n d = true ∧ ¬ Accepts m n R ∧ ∃ r, IsLv m n R r ∧ PyData.eqv d (.list ((lvls m n R r).map lvD)) = true
def spIsRef (K : PySem.W.Frag) : Sp := fun vs H Q E => ∃ (x v : V) (s : Addr) (m : Mach) (n : Nat) (rels : List Rl) (d : PyData), vs = [x, .ref s, v] ∧ Pre K H x s m n rels ∧ Dv H v d ∧ ∀ H', Same H H' → Fails K m n rels E H' ∧
  (m.ts = [] → fits m rels = true → m.st * n ^ m.h ≤ 2000 → ∀ b : Bool, (b = true ↔ IsRef m n (relHas rels) d) → Q (.bl b) H')
theorem sc_is_refusal : FnScope ["machine", "structure", "levels"] ["machine", "structure", "levels"] (defScope s_is_refusal) := ⟨rfl, rfl, rfl, by decide +kernel, rfl, by decide +kernel, by decide +kernel⟩
theorem d_is_refusal (T : Txt w K mg) : Def P w K mg base (L2.CX P w) 11 ("is_refusal", none) ["machine", "structure", "levels"] (spIsRef K) := by
  refine Def.of (k := 10) T.f_is_refusal sc_is_refusal (fun _ _ _ _ _ _ us hl => match us, hl with | [_, _, _], _ => rfl) (fun vs H Q E h => ?_) (fun cdv A outer s H vs Q E hr h => ?_)
  · obtain ⟨x, v, sa, m, n, rels, d, rfl, _⟩ := h
    rfl
  · obtain ⟨x, v, sa, m, n, rels, d, rfl, g, hv, q⟩ := h
    refine ⟨_, ((pss_cons (ps_expr (pe_f (d_check_headed T) (hr.mono (by decide)) T.g_check_headed (passes_call (takes_of rfl rfl rfl rfl) (fun _ _ _ _ h => h)) (pa_cons (pv 0) pa_nil)))
       (pss_cons (ps_expr (pe_f (d_check_places T) (hr.mono (by decide)) T.g_check_places (passes_call (takes_of rfl rfl rfl rfl) (fun _ _ _ _ h => h)) (pa_cons (pv 0) (pa_cons (pv 1) (pa_cons (pe_gi T.i_FEWER) pa_nil)))))
       (pss_cons (ps_if (PW.pt (pw_or (pt_not (pt_val (pe_f (d_are_levels T) (hr.mono (by decide)) T.g_are_levels pass0 (pa_cons (pv 0) (pa_cons (pv 1) (pa_cons (pv 2) pa_nil)))))) (pw_or1 (pt_cmpR op_notN (pe_ix ix_tup (pe_f (d_reached T) (hr.mono (by decide)) T.g_reached pass0 (pa_cons (pv 0) (pa_cons (pv 1) pa_nil))) pe_int (fun _ _ => rfl)) pe_non (nomark _)))))
       (pss_one (ps_ret pe_bl))
       pss_nil)
       (pss_one (ps_ret (pe_cmpR (op_eqD hr.units) (pv 2) (pe_f (d_levels_of T) (hr.mono (by decide)) T.g_levels_of pass0 (pa_cons (pv 0) (pa_cons (pv 1) pa_nil))) (nomark _)))))))), ?_⟩
    have := g.n16
    refine ⟨_, rfl, x, m, rfl, g.mv, g.ok, fun H1 s1 => ⟨fun ht => ?_, fun ht => (q H1 s1).1.1 ht⟩⟩
    have g1 := g.mono s1
    refine ⟨_, rfl, _, rfl, x, m, sa, n, rels, 2000, rfl, g1.mv, g1.ok, g1.st, g1.six, by omega, fun H2 s2 => ?_⟩
    have s02 := Same.tr s1 s2
    have q2 := q H2 s02
    refine ⟨fun hf hsm => ?_, fun hf hsm => q2.1.2.2 ht hf (fun z => hsm (small_iff.mpr z)), fun hf => q2.1.2.1 ht hf⟩
    have hsm := small_iff.mp hsm
    have g2 := (g.mono s02).good ht hf hsm
    refine ⟨_, rfl, _, rfl, _, rfl, x, v, sa, m, n, rels, d, rfl, g2.mv, ht, g2.st, hv.mono s02, fun H3 s3 => ⟨_, rfl, ?_⟩⟩
    have s03 := Same.tr s02 s3
    cases hlv : areLv m n d with
    | false =>
      refine iteTb rfl ((q H3 s03).2 ht hf hsm false ⟨(fun z => nomatch z), fun z => ?_⟩)
      have := z.1
      rw [hlv] at this
      cases this
    | true =>
      refine iteFb rfl ?_
      have g3 := g2.mono s3
      refine ⟨_, rfl, _, rfl, x, sa, m, n, rels, rfl, g3, fun H4 t b u s4 et hu => ?_⟩
      have s04 := Same.tr s03 s4
      have q4 := (q H4 s04).2 ht hf hsm
      refine ⟨t, _, (1 : Int), _, rfl, rfl, SqT.of et, rfl, rfl, _, rfl, ?_⟩
      rcases hu with ⟨rfl, hacc⟩ | ⟨⟨a, rfl⟩, hacc⟩
      · refine iteFb rfl ?_
        refine ⟨_, rfl, _, rfl, _, rfl, x, sa, m, n, rels, rfl, g3.mono s4, fun H5 l r s5 hr hd => ?_⟩
        refine ⟨d, _, (hv.mono (Same.tr s04 s5)).dp, hd.dp, (layN_lv hlv).shaped (by decide), (layN_lv (areLv_lvls g.ok g.n1 r)).shaped (by decide), ?_⟩
        refine (q H5 (Same.tr s04 s5)).2 ht hf hsm _ ⟨fun z => ⟨hlv, hacc, r, hr, z⟩, ?_⟩
        rintro ⟨_, _, r', hr', z⟩
        rw [← hr'.uniq hr]
        exact z
      · exact iteTb rfl (q4 false ⟨(fun z => nomatch z), fun z => absurd hacc z.2.1⟩)
end K54
set_option Elab.async false
set_option linter.all false
set_option maxRecDepth 100000
set_option maxHeartbeats 4000000
set_option pp.maxSteps 800
namespace K54
open PySem PySem.Spec PyProof.Rows L2
variable {P : Program} {w : World} {K : PySem.W.Frag} {mg : Str → Option Value} {base : Heap}
def spMixed : Sp := fun vs H Q _ => ∃ i k : Int, vs = [.int i, .int k] ∧ ∀ v : Int, 0 ≤ v → v < 2147483647 → Q (.int v) H
theorem sc_L_mixed : FnScope ["_law_number", "_law_k", "_law_step"] ["_law_number", "_law_k"] (defScope s_L_mixed) := ⟨rfl, rfl, rfl, by decide +kernel, rfl, by decide +kernel, by decide +kernel⟩
theorem d_L_mixed (T : Txt w K mg) : Def P w K mg base CX0 1 ("_law_mixed", none) ["_law_number", "_law_k"] (spMixed) := by
  refine Def.of0 (k := 0) T.f_L_mixed sc_L_mixed (fun _ _ _ _ _ _ us hl => match us, hl with | [_, _], _ => rfl) (fun vs H Q E h => ?_) (fun cdv A outer s H vs Q E hr h => ?_)
  · obtain ⟨i, k, rfl, _⟩ := h
    rfl
  · obtain ⟨i, k, rfl, q⟩ := h
    refine ⟨_, ((pss_cons (ps_set (i := 2) sc_L_mixed.nd rfl (Or.inl rfl) (pe_op op_mod (pe_op op_add (pe_op op_add (pe_op op_mul (pv 0) pe_int) (pe_op op_mul (pv 1) pe_int)) pe_int) pe_int))
       (pss_one (ps_ret (pe_op op_mod (pe_op op_add (pe_op op_mul (pv 2) (pe_op op_add (pe_op op_fdiv (pv 2) pe_int) pe_int)) (pv 1)) pe_int))))), ?_⟩
    refine ⟨_, rfl, _, _, rfl, rfl, .inr ⟨by omega, by omega⟩, _, rfl, _, _, rfl, rfl, .inr ⟨by omega, by omega⟩, _, _, rfl, rfl, _, _, rfl, rfl, _, _, rfl, rfl, by show (0 : Int) < 2147483647; decide, ?_⟩
    have h1 := Int.emod_nonneg (i * 48271 + k * 69621 + 12345) (b := 2147483647) (by decide)
    have h2 := Int.emod_lt_of_pos (i * 48271 + k * 69621 + 12345) (b := 2147483647) (by decide)
    generalize (i * 48271 + k * 69621 + 12345) % 2147483647 = s1 at h1 h2 ⊢
    refine ⟨_, rfl, _, rfl, _, _, rfl, rfl, ⟨by decide, by decide⟩, _, _, rfl, rfl, _, _, rfl, rfl, .inl ⟨by omega, by omega⟩, _, rfl, _, _, rfl, rfl, _, _, rfl, rfl, by show (0 : Int) < 2147483647; decide, ?_⟩
    exact q _ (Int.emod_nonneg _ (by decide)) (Int.emod_lt_of_pos _ (by decide))
def Mil (ns : List Int) : Prop := ∀ n ∈ ns, 0 ≤ n ∧ n < 1000000
theorem Mil.snoc {ns : List Int} (h : Mil ns) {v : Int} (h0 : 0 ≤ v) (h1 : v < 1000000) : Mil (ns ++ [v]) := fun n hn => by
  rcases List.mem_append.mp hn with hn | hn
  · exact h n hn
  · rw [List.mem_singleton.mp hn]
    exact ⟨h0, h1⟩
theorem mil_mod (v : Int) : 0 ≤ v % 1000000 ∧ v % 1000000 < 1000000 := ⟨Int.emod_nonneg _ (by decide), Int.emod_lt_of_pos _ (by decide)⟩
def spNumbers (K : PySem.W.Frag) : Sp := fun vs H Q _ => ∃ (a : Addr) (ns : List Int), vs = [.ref a] ∧ SqL K H a (ns.map V.int) ∧ ns.length ≤ 63 ∧ ∀ H' l ms, Same H H' → H' l = some (.lst (ms.map V.int)) → Mil ms → Q (.ref l) H'
theorem sc_L_numbers : FnScope ["_law_script", "_law_numbers_here", "_law_cell", "_law_rest", "_law_k"] ["_law_script"] (defScope s_L_numbers) := ⟨rfl, rfl, rfl, by decide +kernel, rfl, by decide +kernel, by decide +kernel⟩
theorem d_L_numbers (T : Txt w K mg) : Def P w K mg base CX0 2 ("_law_numbers", none) ["_law_script"] (spNumbers K) := by
  refine Def.of0 (k := 1) T.f_L_numbers sc_L_numbers (fun _ _ _ _ _ _ us hl => match us, hl with | [_], _ => rfl) (fun vs H Q E h => ?_) (fun cdv A outer s H vs Q E hr h => ?_)
  · obtain ⟨a, ns, rfl, _⟩ := h
    rfl
  · obtain ⟨a, ns, rfl, hs, h63, q⟩ := h
    refine ⟨_, ((pss_cons (ps_set (i := 1) sc_L_numbers.nd rfl (Or.inl rfl) (pe_lst pa_nil))
       (pss_cons (ps_for PassesOwn.never rfl (pi_list (pv 0)) (pg_name (i := 2) sc_L_numbers.nd rfl (Or.inl rfl))
       (pss_one (ps_if (pt_cmpR op_ge (pv 2) (pe_op op_pow pe_int pe_int) (nomark _))
       (pss_cons (ps_set (i := 3) sc_L_numbers.nd rfl (Or.inl rfl) (pv 2))
       (pss_one (ps_for PassesOwn.never rfl (pi_range1 (by rfl) T.b_range (pa_cons pe_int pa_nil)) (pg_name (i := 4) sc_L_numbers.nd rfl (Or.inl rfl))
       (pss_one (ps_if (pt_cmpR op_gt (pv 3) pe_int (nomark _))
       (pss_cons (ps_expr (pe_bm PySem.F.plainAttrs_list PySem.F.slot_list_append PySem.F.type_list_append mt_append (pv 1) (pa_cons (pe_op op_mod (pv 3) pe_int) pa_nil)))
       (pss_one (ps_set (i := 3) sc_L_numbers.nd rfl (Or.inl rfl) (pe_op op_fdiv (pv 3) pe_int))))
       pss_nil)))))
       (pss_cons (ps_expr (pe_bm PySem.F.plainAttrs_list PySem.F.slot_list_append PySem.F.type_list_append mt_append (pv 1) (pa_cons (pe_op op_mod (pv 2) pe_int) pa_nil)))
       (pss_one (ps_for PassesOwn.never rfl (pi_range1 (by rfl) T.b_range (pa_cons pe_int pa_nil)) (pg_name (i := 4) sc_L_numbers.nd rfl (Or.inl rfl))
       (pss_one (ps_expr (pe_bm PySem.F.plainAttrs_list PySem.F.slot_list_append PySem.F.type_list_append mt_append (pv 1) (pa_cons (pe_op op_mod (pe_f (d_L_mixed T) (hr.mono (by decide)) T.g_L_mixed pass0 (pa_cons (pe_f (d_L_mixed T) (hr.mono (by decide)) T.g_L_mixed pass0 (pa_cons (pe_op op_mod (pv 2) pe_int) (pa_cons (pv 4) pa_nil))) (pa_cons (pe_op op_add (pv 4) pe_int) pa_nil))) pe_int) pa_nil))))))))))
       (pss_one (ps_ret (pv 1)))))), ?_⟩
    refine ⟨Nat.zero_le _, fun l nl => ?_⟩
    have st : ∀ {H' : Hp}, Same H H' → SqL K H' a (ns.map V.int) := fun {H'} e => Same.seq e hs
    refine ⟨_, rfl, a, rfl, ⟨_, st (same_upd nl)⟩, for_list (K := K) (a := a) (xs := ns.map V.int) (fun i σ H' => Same H H' ∧ (∃ ms : List Int, H' l = some (.lst (ms.map V.int)) ∧ Mil ms ∧ ms.length ≤ 60 * i) ∧ ∃ u v w', σ = [some (.ref a), some (.ref l), u, v, w']) ⟨same_upd nl, ⟨[], upd_same, (fun n h => nomatch h), Nat.zero_le _⟩, _, _, _, rfl⟩ ?_ ?_ ?_⟩
    · rintro i σ H' hi ⟨s1, _⟩
      exact st s1
    · rintro i x σ H' hx ⟨s1, ⟨ms, el, hm, lm⟩, u, v, w', rfl⟩
      have hi : i < 63 := by
        have := (List.getElem?_eq_some_iff.mp hx).1
        rw [List.length_map] at this
        omega
      rw [List.getElem?_map] at hx
      cases hn : ns[i]? with
      | none => rw [hn] at hx; cases hx
      | some c =>
        rw [hn] at hx
        cases hx
        refine ⟨_, rfl, _, _, rfl, rfl, ⟨by decide, by decide, by decide⟩, _, _, rfl, rfl, _, rfl, iteB (fun _ => ?_) (fun _ => ?_)⟩
        · refine ⟨_, rfl, 60, rfl, by decide, by decide, for_range (n := 60) (fun j σ H2 => Same H H2 ∧ (∃ ms : List Int, H2 l = some (.lst (ms.map V.int)) ∧ Mil ms ∧ ms.length ≤ 60 * i + j) ∧ ∃ r : Int, ∃ v, σ = [some (.ref a), some (.ref l), some (.int c), some (.int r), v]) ⟨s1, ⟨ms, el, hm, lm⟩, c, _, rfl⟩ ?_ ?_⟩
          · rintro j σ H2 hj ⟨s2, ⟨ms2, el2, hm2, lm2⟩, r, v, rfl⟩
            refine ⟨_, rfl, _, _, rfl, rfl, _, rfl, iteB (fun _ => ?_) (fun _ => ?_)⟩
            · refine ⟨_, rfl, .inl ⟨rfl, _, SqL.of el2⟩, _, rfl, _, _, rfl, rfl, by show (0 : Int) < 1000000; decide, l, _, _, rfl, rfl, el2, by rw [List.length_map, sizeLine_eq]; omega, ?_⟩
              have k := mil_mod r
              refine ⟨_, rfl, _, _, rfl, rfl, ⟨by decide, by decide⟩, fun b o e => ?_, ⟨ms2 ++ [r % 1000000], ?_, hm2.snoc k.1 k.2, by rw [List.length_append, List.length_singleton]; omega⟩, _, _, rfl⟩
              · rw [upd_ne (ne_of_none e nl)]
                exact s2 _ _ e
              · rw [List.map_append]
                exact upd_same
            · exact ⟨s2, ⟨ms2, el2, hm2, by omega⟩, r, _, rfl⟩
          · rintro σ H2 ⟨s2, ⟨ms2, el2, hm2, lm2⟩, r, v, rfl⟩
            exact ⟨s2, ⟨ms2, el2, hm2, by omega⟩, _, _, _, rfl⟩
        · refine ⟨_, rfl, .inl ⟨rfl, _, SqL.of el⟩, _, rfl, _, _, rfl, rfl, by show (0 : Int) < 1000000; decide, l, _, _, rfl, rfl, el, by rw [List.length_map, sizeLine_eq]; omega, ?_⟩
          have k := mil_mod c
          have s1' : Same H (upd H' l (.lst (ms.map V.int ++ [.int (c % 1000000)]))) := fun b o e => by
            rw [upd_ne (ne_of_none e nl)]
            exact s1 _ _ e
          refine ⟨5, rfl, by decide, by decide, for_range (n := 5) (fun j σ H2 => Same H H2 ∧ (∃ ms : List Int, H2 l = some (.lst (ms.map V.int)) ∧ Mil ms ∧ ms.length ≤ 60 * i + 1 + j) ∧ ∃ u v, σ = [some (.ref a), some (.ref l), some (.int c), u, v]) ⟨s1', ⟨ms ++ [c % 1000000], by rw [List.map_append]; exact upd_same, hm.snoc k.1 k.2, by rw [List.length_append, List.length_singleton]; omega⟩, _, _, rfl⟩ ?_ ?_⟩
          · rintro j σ H2 hj ⟨s2, ⟨ms2, el2, hm2, lm2⟩, u, v, rfl⟩
            refine ⟨_, rfl, .inl ⟨rfl, _, SqL.of el2⟩, _, rfl, _, _, rfl, rfl, by show (0 : Int) < 2147483647; decide, _, rfl, _, _, rfl, fun v1 _ _ => ⟨_, rfl, _, _, rfl, rfl, _, _, rfl, fun v2 h1 h2 => ?_⟩⟩
            have k2 := mil_mod v2
            refine ⟨_, _, rfl, rfl, by show (0 : Int) < 1000000; decide, l, _, _, rfl, rfl, el2, by rw [List.length_map, sizeLine_eq]; omega, fun b o e => ?_, ⟨ms2 ++ [v2 % 1000000], ?_, hm2.snoc k2.1 k2.2, by rw [List.length_append, List.length_singleton]; omega⟩, _, _, rfl⟩
            · rw [upd_ne (ne_of_none e nl)]
              exact s2 _ _ e
            · rw [List.map_append]
              exact upd_same
          · rintro σ H2 ⟨s2, ⟨ms2, el2, hm2, lm2⟩, u, v, rfl⟩
            exact ⟨s2, ⟨ms2, el2, hm2, by omega⟩, _, _, _, rfl⟩
    · rintro σ H' ⟨s1, ⟨ms, el, hm, lm⟩, u, v, w', rfl⟩
      exact ⟨_, rfl, q H' l ms s1 el hm⟩
def DrAt (H : Hp) (dr nu : Addr) : Prop := ∃ (a : Addr) (c : Nat) (ns : List Int), H dr = some (.lst [.ref a, .int c]) ∧ H a = some (.lst (ns.map V.int)) ∧ Mil ns ∧ a = nu
theorem DrAt.ne {H : Hp} {dr a : Addr} {c : Nat} {ns : List Int} (e1 : H dr = some (.lst [.ref a, .int c])) (e2 : H a = some (.lst (ns.map V.int))) : a ≠ dr := ne_of e2 e1 (by
  intro z
  injection z with z
  cases ns with
  | nil => cases z
  | cons n ns => injection z with z; cases z)
theorem DrAt.same {H H' : Hp} {dr nu : Addr} (d : DrAt H dr nu) (s : Same H H') : DrAt H' dr nu :=
  let ⟨a, c, ns, e1, e2, h⟩ := d
  ⟨a, c, ns, s _ _ e1, s _ _ e2, h⟩
def spDraw : Sp := fun vs H Q _ => ∃ dr nu, vs = [.ref dr] ∧ DrAt H dr nu ∧ ∀ v H', 0 ≤ v → v < 1000000 → Kx dr H H' → DrAt H' dr nu → Q (.int v) H'
theorem sc_L_draw : FnScope ["_law_draws", "_law_at", "_law_first_here"] ["_law_draws"] (defScope s_L_draw) := ⟨rfl, rfl, rfl, by decide +kernel, rfl, by decide +kernel, by decide +kernel⟩
theorem d_L_draw (T : Txt w K mg) : Def P w K mg base CX0 2 ("_law_draw", none) ["_law_draws"] (spDraw) := by
  refine Def.of0 (k := 1) T.f_L_draw sc_L_draw (fun _ _ _ _ _ _ us hl => match us, hl with | [_], _ => rfl) (fun vs H Q E h => ?_) (fun cdv A outer s H vs Q E hr h => ?_)
  · obtain ⟨dr, nu, rfl, _⟩ := h
    rfl
  · obtain ⟨dr, nu, rfl, ⟨a, c, ns, e1, e2, hm⟩, q⟩ := h
    refine ⟨_, ((pss_cons (ps_set (i := 1) sc_L_draw.nd rfl (Or.inl rfl) (pe_ix ix_list (pv 0) pe_int (fun _ _ => rfl)))
       (pss_cons (ps_asg (pe_op op_add (pv 1) pe_int) (pg_sub (pv 0) pe_int set_list))
       (pss_cons (ps_if (pt_cmpR op_lt (pv 1) (pe_b call_len_seq T.b_len (pa_cons (pe_ix ix_list (pv 0) pe_int (fun _ _ => rfl)) pa_nil)) (nomark _))
       (pss_one (ps_ret (pe_ix ix_list (pe_ix ix_list (pv 0) pe_int (fun _ _ => rfl)) (pv 1) (fun _ _ => rfl))))
       pss_nil)
       (pss_cons (ps_set (i := 2) sc_L_draw.nd rfl (Or.inl rfl) (pe_op op_add pe_int (pv 1)))
       (pss_cons (ps_if (pt_cmpR op_gt (pe_b call_len_seq T.b_len (pa_cons (pe_ix ix_list (pv 0) pe_int (fun _ _ => rfl)) pa_nil)) pe_int (nomark _))
       (pss_one (ps_set (i := 2) sc_L_draw.nd rfl (Or.inl rfl) (pe_op op_add (pv 2) (pe_op op_mul pe_int (pe_ix ix_list (pe_ix ix_list (pv 0) pe_int (fun _ _ => rfl)) pe_int (fun _ _ => rfl))))))
       pss_nil)
       (pss_one (ps_ret (pe_op op_mod (pe_f (d_L_mixed T) (hr.mono (by decide)) T.g_L_mixed pass0 (pa_cons (pe_f (d_L_mixed T) (hr.mono (by decide)) T.g_L_mixed pass0 (pa_cons (pv 2) (pa_cons (pv 1) pa_nil))) (pa_cons pe_int pa_nil))) pe_int))))))))), ?_⟩
    have nad := DrAt.ne e1 e2
    refine ⟨_, rfl, dr, _, (1 : Int), _, rfl, rfl, SqL.of e1, rfl, ?_⟩
    refine ⟨_, rfl, _, _, rfl, rfl, _, rfl, dr, _, _, 1, rfl, rfl, e1, rfl, ?_⟩
    have e1' : (upd H dr (.lst ([.ref a, .int (c : Nat)].set 1 (.int ((c : Nat) + 1))))) dr = some (.lst [.ref a, .int ((c + 1 : Nat))]) := by
      rw [upd_same]
      rfl
    have e2' := (upd_ne (o := .lst ([.ref a, .int (c : Nat)].set 1 (.int ((c : Nat) + 1)))) nad).trans e2
    have kx : Kx dr H (upd H dr (.lst ([.ref a, .int (c : Nat)].set 1 (.int ((c : Nat) + 1))))) := .put
    generalize upd H dr (.lst ([.ref a, .int (c : Nat)].set 1 (.int ((c : Nat) + 1)))) = H1 at e1' e2' kx ⊢
    have dr1 : DrAt H1 dr nu := ⟨a, c + 1, ns, e1', e2', hm⟩
    refine ⟨_, rfl, _, rfl, dr, _, (0 : Int), _, rfl, rfl, SqL.of e1', rfl, a, _, rfl, .inl (SqL.of e2'), _, _, rfl, rfl, _, rfl, iteB (fun hlt => ?_) (fun hlt => ?_)⟩
    · have hlt := of_decide_eq_true hlt
      rw [List.length_map] at hlt
      have hlt : c < ns.length := by omega
      have hg : (ns.map V.int)[c]? = some (.int ns[c]) := by rw [List.getElem?_map, List.getElem?_eq_getElem hlt]; rfl
      have hv := hm.1 _ (List.getElem_mem hlt)
      exact ⟨_, rfl, dr, _, (0 : Int), _, rfl, rfl, SqL.of e1', rfl, _, rfl, a, _, _, _, rfl, rfl, SqL.of e2', atI_nat hg, q _ H1 hv.1 hv.2 kx dr1⟩
    · have fin : ∀ v : Int, Q (.int (v % 1000000)) H1 := fun v => q _ H1 (mil_mod v).1 (mil_mod v).2 kx dr1
      refine ⟨_, rfl, _, _, rfl, rfl, ?_⟩
      refine ⟨_, rfl, dr, _, (0 : Int), _, rfl, rfl, SqL.of e1', rfl, a, _, rfl, .inl (SqL.of e2'), _, _, rfl, rfl, _, rfl, iteB (fun hpos => ?_) (fun hpos => ?_)⟩
      · have hpos := of_decide_eq_true hpos
        rw [List.length_map] at hpos
        have hpos : 0 < ns.length := by omega
        have hg : (ns.map V.int)[0]? = some (.int ns[0]) := by rw [List.getElem?_map, List.getElem?_eq_getElem hpos]; rfl
        refine ⟨_, rfl, _, rfl, dr, _, (0 : Int), _, rfl, rfl, SqL.of e1', rfl, a, _, (0 : Int), _, rfl, rfl, SqL.of e2', atI_nat (j := 0) hg, _, _, rfl, rfl, .inl ⟨by decide, by decide⟩, _, _, rfl, rfl, ?_⟩
        exact ⟨_, rfl, _, rfl, _, _, rfl, fun v1 _ _ => ⟨_, _, rfl, fun v2 _ _ => ⟨_, _, rfl, rfl, by show (0 : Int) < 1000000; decide, fin v2⟩⟩⟩
      · exact ⟨_, rfl, _, rfl, _, _, rfl, fun v1 _ _ => ⟨_, _, rfl, fun v2 _ _ => ⟨_, _, rfl, rfl, by show (0 : Int) < 1000000; decide, fin v2⟩⟩⟩
end K54
set_option Elab.async false
set_option linter.all false
set_option maxRecDepth 100000
set_option maxHeartbeats 4000000
set_option pp.maxSteps 800
namespace K54
open PySem PySem.Spec PyProof.Rows L2
variable {P : Program} {w : World} {K : PySem.W.Frag} {mg : Str → Option Value} {base : Heap}
def RowsOk (n k : Nat) (ks : List (List Int)) : Prop := ∀ r ∈ ks, r.length = k ∧ ∀ v ∈ r, 0 ≤ v ∧ v < (n : Int)
theorem kyT_row {H : Hp} {r : List Int} {v : V} (h : KyT H (rowK r) v) : ∃ a, v = .ref a ∧ H a = some (.tup (r.map V.int)) := by
  unfold rowK at h
  cases h with
  | tup e q =>
    rw [kyTs_nums_inv q] at e
    exact ⟨_, rfl, e⟩
theorem RowsOk.snoc {n k : Nat} {ks : List (List Int)} (h : RowsOk n k ks) {r : List Int} (h1 : r.length = k) (h2 : ∀ v ∈ r, 0 ≤ v ∧ v < (n : Int)) : RowsOk n k (ks ++ [r]) := fun x hx => by
  rcases List.mem_append.mp hx with hx | hx
  · exact h x hx
  · rw [List.mem_singleton.mp hx]
    exact ⟨h1, h2⟩
theorem RowsOk.app {n k : Nat} {ks ls : List (List Int)} (h : RowsOk n k ks) (h' : RowsOk n k ls) : RowsOk n k (ks ++ ls) := fun x hx => by
  rcases List.mem_append.mp hx with hx | hx
  · exact h x hx
  · exact h' x hx
theorem refsOf_app {H : Hp} : ∀ {ks ls : List NestedKey} {as bs : List Addr}, RefsOf H ks as → RefsOf H ls bs → RefsOf H (ks ++ ls) (as ++ bs)
  | _, _, _, _, .nil, q => q
  | _, _, _, _, .cons z t, q => .cons z (refsOf_app t q)
def spRows : Sp := fun vs H Q _ => ∃ n k : Nat, vs = [vInt n, vInt k] ∧ n ≤ 3 ∧ k ≤ 2 ∧ ∀ H' l (as : List Addr) ks, Same H H' → H' l = some (.lst (as.map V.ref)) → RefsOf H' (ks.map rowK) as → RowsOk n k ks → ks.length ≤ 9 → Q (.ref l) H'
theorem sc_L_all_rows : FnScope ["_law_n", "_law_k", "_law_rows", "_law_place", "_law_grown", "_law_row", "_law_element"] ["_law_n", "_law_k"] (defScope s_L_all_rows) := ⟨rfl, rfl, rfl, by decide +kernel, rfl, by decide +kernel, by decide +kernel⟩
theorem d_L_all_rows (T : Txt w K mg) : Def P w K mg base CX0 1 ("_law_all_rows", none) ["_law_n", "_law_k"] (spRows) := by
  refine Def.of0 (k := 0) T.f_L_all_rows sc_L_all_rows (fun _ _ _ _ _ _ us hl => match us, hl with | [_, _], _ => rfl) (fun vs H Q E h => ?_) (fun cdv A outer s H vs Q E hr h => ?_)
  · obtain ⟨n, k, rfl, _⟩ := h
    rfl
  · obtain ⟨n, k, rfl, h3, h2, q⟩ := h
    refine ⟨_, ((pss_cons (ps_set (i := 2) sc_L_all_rows.nd rfl (Or.inl rfl) (pe_lst (pa_cons (pe_tup pa_nil) pa_nil)))
       (pss_cons (ps_for PassesOwn.never rfl (pi_range1 (by rfl) T.b_range (pa_cons (pv 1) pa_nil)) (pg_name (i := 3) sc_L_all_rows.nd rfl (Or.inl rfl))
       (pss_cons (ps_set (i := 4) sc_L_all_rows.nd rfl (Or.inl rfl) (pe_lst pa_nil))
       (pss_cons (ps_for PassesOwn.never rfl (pi_list (pv 2)) (pg_name (i := 5) sc_L_all_rows.nd rfl (Or.inr rfl))
       (pss_one (ps_set (i := 4) sc_L_all_rows.nd rfl (Or.inl rfl) (pe_op op_cat (pv 4) (pe_lc (own := [("_law_element", 6)]) (g := (gName 6)) (by rfl) sc_L_all_rows.nd (pi_range1 (by rfl) T.b_range (pa_cons (pv 0) pa_nil)) (blkOk_by (own := [("_law_element", 6)]) (N := ["_law_n", "_law_k", "_law_rows", "_law_place", "_law_grown", "_law_row", "_law_element"]) (sc := defScope s_L_all_rows) (by decide +kernel)) (fun _ _ _ _ _ => (pg_name (i := 6) sc_L_all_rows.nd rfl (Or.inl rfl) (Or.inr rfl))) (fun _ _ _ _ _ => pts_nil) (fun _ _ _ _ _ => (pe_op (op_catAK (K := K) rfl) (pv 5) (pe_tup (pa_cons (pv 6) pa_nil)))))))))
       (pss_one (ps_set (i := 2) sc_L_all_rows.nd rfl (Or.inl rfl) (pv 4))))))
       (pss_one (ps_ret (pv 2)))))), ?_⟩
    refine ⟨Nat.zero_le _, fun e0 ne0 => ⟨by show 1 ≤ sizeLine; decide, fun l0 nl0 => ?_⟩⟩
    have s0 : Same H (upd (upd H e0 (.tup [])) l0 (.lst [.ref e0])) := Same.tr (same_upd ne0) (same_upd nl0)
    have el0 : (upd (upd H e0 (.tup [])) l0 (.lst [.ref e0])) l0 = some (.lst [.ref e0]) := upd_same
    have ee0 : (upd (upd H e0 (.tup [])) l0 (.lst [.ref e0])) e0 = some (.tup []) := same_upd nl0 _ _ upd_same
    generalize upd (upd H e0 (.tup [])) l0 (.lst [.ref e0]) = H0 at s0 el0 ee0 ⊢
    refine ⟨_, rfl, k, rfl, by omega, by omega, for_range (n := k) (fun i σ H' => Same H H' ∧ ∃ (l : Addr) (as : List Addr) (ks : List (List Int)) (u v r e : Option V), σ = [some (vInt n), some (vInt k), some (.ref l), u, v, r, e] ∧ H' l = some (.lst (as.map V.ref)) ∧ RefsOf H' (ks.map rowK) as ∧ RowsOk n i ks ∧ ks.length ≤ 3 ^ i)
      ⟨s0, l0, [e0], [[]], none, none, none, none, rfl, el0, .cons (.tup (xs := []) ee0 .nil) .nil, fun r hr => by rw [List.mem_singleton.mp hr]; exact ⟨rfl, fun v hv => nomatch hv⟩, Nat.le_refl _⟩ ?_ ?_⟩
    · rintro i σ H1 hi ⟨s1, l, as, ks, u, v, r, e, rfl, el, ra, ok, lk⟩
      have las : as.length = ks.length := by rw [← paired_len ra, List.length_map]
      refine ⟨Nat.zero_le _, fun g0 ng0 => ?_⟩
      have sg := same_upd (o := .lst []) ng0
      have eg0 : (upd H1 g0 (.lst [])) g0 = some (.lst []) := upd_same
      generalize upd H1 g0 (.lst []) = H2 at sg eg0 ⊢
      refine ⟨_, rfl, l, rfl, ⟨_, SqL.of (sg _ _ el)⟩, for_list (K := K) (a := l) (xs := as.map V.ref) (fun j σ H' => Same H2 H' ∧ ∃ (g : Addr) (gs : List Addr) (gks : List (List Int)) (r e : Option V), σ = [some (vInt n), some (vInt k), some (.ref l), some (.int (0 + (i : Nat))), some (.ref g), r, e] ∧ H' g = some (.lst (gs.map V.ref)) ∧ RefsOf H' (gks.map rowK) gs ∧ RowsOk n (i + 1) gks ∧ gks.length ≤ 3 * j)
        ⟨Same.rf, g0, [], [], _, _, rfl, eg0, .nil, fun r hr => (nomatch hr), Nat.zero_le _⟩ ?_ ?_ ?_⟩
      · rintro j σ H' hj ⟨s2, _⟩
        exact SqL.of (s2 _ _ (sg _ _ el))
      · rintro j y σ H3 hy ⟨s2, g, gs, gks, r, e, rfl, eg, rg, okg, lg⟩
        rw [List.getElem?_map] at hy
        cases ha : as[j]? with
        | none => rw [ha] at hy; cases hy
        | some a =>
          rw [ha] at hy
          cases hy
          have hj : j < ks.length := by
            rw [← las]
            exact (List.getElem?_eq_some_iff.mp ha).1
          obtain ⟨kr, hkr⟩ : ∃ kr, ks[j]? = some kr := ⟨_, List.getElem?_eq_getElem hj⟩
          have kk : KyT H1 (rowK kr) (.ref a) := by
            obtain ⟨b, hb, kb⟩ := paired_get ra (i := j) (a := rowK kr) (by rw [List.getElem?_map, hkr]; rfl)
            rw [ha] at hb
            cases hb
            exact kb
          obtain ⟨_, e', ea⟩ := kyT_row kk
          cases e'
          have ea3 := s2 _ _ (sg _ _ ea)
          have okr := ok kr (List.mem_of_getElem? hkr)
          have lk9 : 3 ^ i ≤ 3 := by
            have : i = 0 ∨ i = 1 := by omega
            rcases this with rfl | rfl <;> decide
          have lg9 : gs.length = gks.length := by rw [← paired_len rg, List.length_map]
          refine ⟨_, rfl, _, rfl, n, rfl, by omega, by omega, fun D nD => lc_range (lo := 0) (n := n) (fun t H4 => Same H3 H4 ∧ ∃ ds : List Addr, H4 D = some (.lst (ds.map V.ref)) ∧ RefsOf H4 (((List.range t).map fun v : Nat => kr ++ [(v : Int)]).map rowK) ds) ⟨same_upd nD, [], upd_same, .nil⟩ ?_ ?_⟩
          · rintro t H4 ht ⟨s4, ds, eD, rd⟩
            have ld : ds.length = t := by rw [← paired_len rd, List.length_map, List.length_map, List.length_range]
            have fin : ∀ (p : Addr) (H5 : Hp), Same H4 H5 → H5 p = some (.tup ((kr ++ [(t : Int)]).map V.int)) → Same H3 (upd H5 D (.lst (ds.map V.ref ++ [.ref p]))) ∧ ∃ ds' : List Addr, (upd H5 D (.lst (ds.map V.ref ++ [.ref p]))) D = some (.lst (ds'.map V.ref)) ∧ RefsOf (upd H5 D (.lst (ds.map V.ref ++ [.ref p]))) (((List.range (t + 1)).map fun v : Nat => kr ++ [(v : Int)]).map rowK) ds' := fun p H5 s5 ep => by
              have eD5 := s5 _ _ eD
              have tt : TupS H5 (upd H5 D (.lst (ds.map V.ref ++ [.ref p]))) := tupS_upd (fun ys e => by rw [eD5] at e; cases e)
              refine ⟨fun b o e => ?_, ds ++ [p], ?_, ?_⟩
              · rw [upd_ne (ne_of_none e nD)]
                exact s5 _ _ (s4 _ _ e)
              · rw [List.map_append]
                exact upd_same
              · rw [List.range_succ, List.map_append, List.map_append]
                exact (refsOf_mono ((Same.tupS s5).trans tt) rd).snoc (.tup (tt _ _ ep) (kyTs_nums _))
            refine ⟨rfl, _, rfl, _, rfl, by show 1 ≤ sizeLine; decide, fun t1 nt1 => ?_⟩
            have s5 := same_upd (o := .tup [.int (0 + (t : Nat))]) nt1
            have et1 : (upd H4 t1 (.tup [.int (0 + (t : Nat))])) t1 = some (.tup [.int (t : Int)]) := by
              rw [Int.zero_add]
              exact upd_same
            generalize upd H4 t1 (.tup [.int (0 + (t : Nat))]) = H5 at s5 et1 ⊢
            have eD5 := s5 _ _ eD
            have ea5 := s5 _ _ (s4 _ _ ea3)
            refine ⟨a, t1, _, _, rfl, rfl, SqT.of ea5, SqT.of et1, by rw [List.length_map, okr.1, sizeLine_eq]; show i + 1 ≤ _; omega, fun hnil => ?_, fun _ h => (nomatch h), fun hne _ p np => ?_⟩
            · have hkr0 : kr = [] := by
                cases kr with
                | nil => rfl
                | cons x l => cases hnil
              refine ⟨_, eD5, by rw [List.length_map, sizeLine_eq]; omega, ?_⟩
              refine fin t1 H5 s5 ?_
              rw [hkr0]
              exact et1
            · have s6 := same_upd (o := .tup (kr.map V.int ++ [.int (t : Int)])) np
              refine ⟨_, s6 _ _ eD5, by rw [List.length_map, sizeLine_eq]; omega, ?_⟩
              refine fin p _ (Same.tr s5 s6) ?_
              rw [upd_same, List.map_append]
              rfl
          · rintro H4 ⟨s4, ds, eD, rd⟩
            have ld : ds.length = n := by rw [← paired_len rd, List.length_map, List.length_map, List.length_range]
            refine ⟨g, D, _, _, rfl, rfl, s4 _ _ eg, eD, by rw [List.length_map, List.length_map, sizeLine_eq]; omega, fun p np => ?_⟩
            have s5 := same_upd (o := .lst (gs.map V.ref ++ ds.map V.ref)) np
            refine ⟨Same.tr s2 (Same.tr s4 s5), p, gs ++ ds, gks ++ (List.range n).map (fun v : Nat => kr ++ [(v : Int)]), _, _, rfl, ?_, ?_, okg.app ?_, ?_⟩
            · rw [List.map_append]
              exact upd_same
            · rw [List.map_append]
              exact refsOf_app (refsOf_mono (Same.tupS (Same.tr s4 s5)) rg) (refsOf_mono (Same.tupS s5) rd)
            · intro x hx
              obtain ⟨v, hv, rfl⟩ := List.mem_map.mp hx
              have hv := List.mem_range.mp hv
              refine ⟨by rw [List.length_append, okr.1]; rfl, fun y hy => ?_⟩
              rcases List.mem_append.mp hy with hy | hy
              · exact okr.2 y hy
              · rw [List.mem_singleton.mp hy]
                omega
            · rw [List.length_append, List.length_map, List.length_range]
              omega
      · rintro σ H3 ⟨s2, g, gs, gks, r, e, rfl, eg, rg, okg, lg⟩
        rw [List.length_map, las] at lg
        have lk9 : gks.length ≤ 3 ^ (i + 1) := by
          rw [Nat.pow_succ]
          omega
        exact ⟨_, rfl, Same.tr s1 (Same.tr sg s2), g, gs, gks, _, _, _, _, rfl, eg, rg, okg, lk9⟩
    · rintro σ H1 ⟨s1, l, as, ks, u, v, r, e, rfl, el, ra, ok, lk⟩
      refine ⟨_, rfl, q H1 l as ks s1 el ra ok (Nat.le_trans lk ?_)⟩
      have : k = 0 ∨ k = 1 ∨ k = 2 := by omega
      rcases this with rfl | rfl | rfl <;> decide
end K54
set_option Elab.async false
set_option linter.all false
set_option maxRecDepth 100000
set_option maxHeartbeats 4000000
set_option pp.maxSteps 800
namespace K54
open PySem PySem.Spec PyProof.Rows L2
variable {P : Program} {w : World} {K : PySem.W.Frag} {mg : Str → Option Value} {base : Heap}
theorem DrAt.lst {H : Hp} {dr nu : Addr} (d : DrAt H dr nu) : ∃ a c, H dr = some (.lst [.ref a, .int c]) :=
  let ⟨a, c, _, e, _⟩ := d
  ⟨a, c, e⟩
theorem DrAt.tups {H H' : Hp} {dr nu : Addr} (d : DrAt H dr nu) (k : Kx dr H H') : TupS H H' := by
  obtain ⟨a, c, e⟩ := d.lst
  exact k.tups e (by intro ys z; cases z)
theorem DrAt.ne_refs {H : Hp} {dr nu l : Addr} {as : List Addr} (d : DrAt H dr nu) (e : H l = some (.lst (as.map V.ref))) : l ≠ dr := by
  obtain ⟨a, c, ed⟩ := d.lst
  refine ne_of e ed (fun z => ?_)
  injection z with z
  match as, z with
  | [], z => cases z
  | [_], z => cases z
  | _ :: _ :: _, z =>
    injection z with _ z
    injection z with z _
    cases z
theorem DrAt.ne_nd {H : Hp} {dr nu d : Addr} {ks : List NestedKey} (r : DrAt H dr nu) (n : NdAt P w H d ks) : d ≠ dr := by
  obtain ⟨a, c, ed⟩ := r.lst
  obtain ⟨xs, e, _⟩ := n
  exact ne_of e ed (by intro z; cases z)
theorem DrAt.ne_dk {H : Hp} {dr nu d : Addr} {kvs : List (Key × V)} (r : DrAt H dr nu) (n : H d = some (.dK kvs)) : d ≠ dr := by
  obtain ⟨a, c, ed⟩ := r.lst
  exact ne_of n ed (by intro z; cases z)
theorem DrAt.nd {H H' : Hp} {dr nu d : Addr} {ks : List NestedKey} (r : DrAt H dr nu) (k : Kx dr H H') (n : NdAt P w H d ks) : NdAt P w H' d ks := n.mono (r.tups k) fun o e => k _ _ (r.ne_nd n) e
def spRelation (P : Program) (w : World) : Sp := fun vs H Q _ => ∃ (dr nu : Addr) (n ar : Nat), vs = [.ref dr, vInt n, vInt ar] ∧ DrAt H dr nu ∧ n ≤ 3 ∧ ar ≤ 2 ∧ ∀ H' d ks, Kx dr H H' → DrAt H' dr nu → H d = none → NdAt P w H' d (ks.map rowK) → RowsOk n ar ks → ks.length ≤ 9 → Q (.ref d) H'
theorem sc_L_relation : FnScope ["_law_draws", "_law_n", "_law_arity", "_law_share", "_law_found", "_law_row"] ["_law_draws", "_law_n", "_law_arity"] (defScope s_L_relation) := ⟨rfl, rfl, rfl, by decide +kernel, rfl, by decide +kernel, by decide +kernel⟩
theorem d_L_relation (T : Txt w K mg) : Def P w K mg base CX0 3 ("_law_relation", none) ["_law_draws", "_law_n", "_law_arity"] (spRelation P w) := by
  refine Def.of0 (k := 2) T.f_L_relation sc_L_relation (fun _ _ _ _ _ _ us hl => match us, hl with | [_, _, _], _ => rfl) (fun vs H Q E h => ?_) (fun cdv A outer s H vs Q E hr h => ?_)
  · obtain ⟨dr, nu, n, ar, rfl, _⟩ := h
    rfl
  · obtain ⟨dr, nu, n, ar, rfl, d0, h3, h2, q⟩ := h
    refine ⟨_, ((pss_cons (ps_set (i := 3) sc_L_relation.nd rfl (Or.inl rfl) (pe_op op_mod (pe_f (d_L_draw T) (hr.mono (by decide)) T.g_L_draw pass0 (pa_cons (pv 0) pa_nil)) pe_int))
       (pss_cons (ps_set (i := 4) sc_L_relation.nd rfl (Or.inl rfl) pe_dnewN)
       (pss_cons (ps_for PassesOwn.never rfl (pi_list (pe_f (d_L_all_rows T) (hr.mono (by decide)) T.g_L_all_rows pass0 (pa_cons (pv 1) (pa_cons (pv 2) pa_nil)))) (pg_name (i := 5) sc_L_relation.nd rfl (Or.inl rfl))
       (pss_one (ps_if (pt_cmpR op_lt (pe_op op_mod (pe_f (d_L_draw T) (hr.mono (by decide)) T.g_L_draw pass0 (pa_cons (pv 0) pa_nil)) pe_int) (pv 3) (nomark _))
       (pss_one (ps_asg pe_bl (pg_sub (pv 4) (pv 5) (set_N hr.units))))
       pss_nil)))
       (pss_one (ps_ret (pv 4))))))), ?_⟩
    refine ⟨_, rfl, dr, nu, rfl, d0, fun v1 H1 v10 v11 k1 d1 => ?_⟩
    refine ⟨_, _, rfl, rfl, by show (0 : Int) < 7; decide, ?_⟩
    intro f nf n0 hn0
    have sf := same_upd (o := n0) nf
    have d2 := d1.same sf
    generalize upd H1 f n0 = H2 at hn0 sf d2 ⊢
    have nf0 : H f = none := by
      cases hf : H f with
      | none => rfl
      | some o =>
        by_cases hfd : f = dr
        · obtain ⟨a, c, e⟩ := d1.lst
          rw [hfd, e] at nf
          cases nf
        · rw [k1 _ _ hfd hf] at nf
          cases nf
    refine ⟨_, rfl, _, rfl, n, ar, rfl, h3, h2, fun H3 l as ks s3 el ra ok lk => ?_⟩
    have d3 := d2.same s3
    have las : as.length = ks.length := by rw [← paired_len ra, List.length_map]
    have k3 : Kx dr H H3 := k1.trans (.of (Same.tr sf s3))
    refine ⟨l, rfl, ⟨_, SqL.of el⟩, for_list (K := K) (a := l) (xs := as.map V.ref) (fun i σ H' => Kx dr H H' ∧ DrAt H' dr nu ∧ H' l = some (.lst (as.map V.ref)) ∧ RefsOf H' (ks.map rowK) as ∧ (∃ fs : List (List Int), NdAt P w H' f (fs.map rowK) ∧ RowsOk n ar fs ∧ fs.length ≤ i) ∧
      ∃ v, σ = [some (.ref dr), some (vInt n), some (vInt ar), some (.int (v1 % 7)), some (.ref f), v]) ⟨k3, d3, el, ra, ⟨[], hn0.mono (Same.tupS s3) (fun o e => s3 _ _ e), fun r hr => (nomatch hr), Nat.le_refl _⟩, _, rfl⟩ ?_ ?_ ?_⟩
    · rintro i σ H' hi ⟨_, _, el', _⟩
      exact SqL.of el'
    · rintro i x σ H4 hx ⟨k4, d4, el4, ra4, ⟨fs, hf4, okf, lf⟩, v, rfl⟩
      rw [List.getElem?_map] at hx
      cases ha : as[i]? with
      | none => rw [ha] at hx; cases hx
      | some a =>
        rw [ha] at hx
        cases hx
        have hi : i < ks.length := by
          rw [← las]
          exact (List.getElem?_eq_some_iff.mp ha).1
        obtain ⟨kr, hkr⟩ : ∃ kr, ks[i]? = some kr := ⟨_, List.getElem?_eq_getElem hi⟩
        refine ⟨_, rfl, dr, nu, rfl, d4, fun v2 H5 v20 v21 k5 d5 => ?_⟩
        have t5 := d4.tups k5
        have el5 := k5 _ _ (d4.ne_refs el4) el4
        have ra5 := refsOf_mono t5 ra4
        have hf5 := d4.nd k5 hf4
        refine ⟨_, _, rfl, rfl, by show (0 : Int) < 6; decide, _, rfl, _, _, rfl, rfl, _, rfl, iteB (fun _ => ?_) (fun _ => ?_)⟩
        · have kk : KyT H5 (rowK kr) (.ref a) := by
            obtain ⟨b, hb, kb⟩ := paired_get ra5 (i := i) (a := rowK kr) (by rw [List.getElem?_map, hkr]; rfl)
            rw [ha] at hb
            cases hb
            exact kb
          have okr := ok kr (List.mem_of_getElem? hkr)
          refine ⟨_, rfl, _, rfl, f, rowK kr, _, rfl, ⟨_, rfl⟩, kk, rowK_depth _, hf5, by rw [List.length_map, sizeLine_eq]; omega, fun n6 hn6 => ?_⟩
          have t6 : TupS H5 (upd H5 f n6) := tupS_upd (fun ys e => by
            obtain ⟨xs, eb, _⟩ := hf5
            rw [eb] at e
            cases e)
          have nlf : l ≠ f := by
            obtain ⟨xs, eb, _⟩ := hf5
            exact ne_of el5 eb (by intro z; cases z)
          have ndf : dr ≠ f := (d5.ne_nd hf5).symm
          have d6 : DrAt (upd H5 f n6) dr nu := by
            obtain ⟨a', c', ns, e1, e2, hm⟩ := d5
            refine ⟨a', c', ns, (upd_ne ndf).trans e1, (upd_ne ?_).trans e2, hm⟩
            obtain ⟨xs, eb, _⟩ := hf5
            exact ne_of e2 eb (by intro z; cases z)
          refine ⟨fun b o nb e => (upd_ne (ne_of_none e nf0)).trans (k5 _ _ nb (k4 _ _ nb e)), d6, (upd_ne nlf).trans el5, refsOf_mono t6 ra5, ?_, _, rfl⟩
          by_cases hin : rowK kr ∈ fs.map rowK
          · rw [if_pos hin] at hn6
            exact ⟨fs, hn6, okf, by omega⟩
          · rw [if_neg hin] at hn6
            refine ⟨fs ++ [kr], by rw [List.map_append]; exact hn6, okf.snoc okr.1 okr.2, by rw [List.length_append, List.length_singleton]; omega⟩
        · exact ⟨k4.trans k5, d5, el5, ra5, ⟨fs, hf5, okf, by omega⟩, _, rfl⟩
    · rintro σ H4 ⟨k4, d4, el4, ra4, ⟨fs, hf4, okf, lf⟩, v, rfl⟩
      rw [List.length_map, las] at lf
      exact ⟨_, rfl, q H4 f fs k4 d4 nf0 hf4 okf (by omega)⟩
def LRel (P : Program) (w : World) (H : Hp) (rd : Addr) (rels : List Rl) : Prop := ∃ kvs, H rd = some (.dK kvs) ∧ ∀ r ∈ rels, ∃ a, valV kvs (.inr r.z.s) = some (.ref a) ∧ NdAt P w H a (r.ks.map rowK)
theorem LRel.mono {H H' : Hp} {rd : Addr} {rels : List Rl} (h : LRel P w H rd rels) (s : Same H H') : LRel P w H' rd rels := by
  obtain ⟨kvs, e, hr⟩ := h
  refine ⟨kvs, s _ _ e, fun r hr' => ?_⟩
  obtain ⟨a, h1, h2⟩ := hr r hr'
  exact ⟨a, h1, h2.mono (Same.tupS s) fun o e => s _ _ e⟩
theorem LRel.monoX {H H' : Hp} {rd dr nu : Addr} {rels : List Rl} (h : LRel P w H rd rels) (d : DrAt H dr nu) (k : Kx dr H H') : LRel P w H' rd rels := by
  obtain ⟨kvs, e, hr⟩ := h
  refine ⟨kvs, k _ _ (d.ne_dk e) e, fun r hr' => ?_⟩
  obtain ⟨a, h1, h2⟩ := hr r hr'
  exact ⟨a, h1, d.nd k h2⟩
structure RelsOk (n : Nat) (rels : List Rl) : Prop where
  zs : rels.map Rl.z = [.e, .p, .q]
  ars : ∀ r ∈ rels, r.ar = r.z.ar
  rows : ∀ r ∈ rels, RowsOk n r.ar r.ks ∧ r.ks.length ≤ 9
def three (ke kp kq : List (List Int)) : List Rl := [⟨.e, 2, ke⟩, ⟨.p, 1, kp⟩, ⟨.q, 0, kq⟩]
theorem three_ok {n : Nat} {ke kp kq : List (List Int)} (h1 : RowsOk n 2 ke ∧ ke.length ≤ 9) (h2 : RowsOk n 1 kp ∧ kp.length ≤ 9) (h3 : RowsOk n 0 kq ∧ kq.length ≤ 9) : RelsOk n (three ke kp kq) := by
  refine ⟨rfl, fun r hr => ?_, fun r hr => ?_⟩ <;> (unfold three at hr; simp only [List.mem_cons, List.not_mem_nil, or_false] at hr; rcases hr with rfl | rfl | rfl)
  · rfl
  · rfl
  · rfl
  · exact h1
  · exact h2
  · exact h3
def three_kv (a b c : Addr) : List (Key × V) := [(.inr "e", .ref a), (.inr "p", .ref b), (.inr "q", .ref c)]
theorem three_merge (a b c : Addr) : mergeK [] (three_kv a b c) = three_kv a b c := by
  have h1 : ¬ ((Sum.inr ("e" : Str) : Key) = Sum.inr ("p" : Str)) := by decide +kernel
  have h2 : ¬ ((Sum.inr ("e" : Str) : Key) = Sum.inr ("q" : Str)) := by decide +kernel
  have h3 : ¬ ((Sum.inr ("p" : Str) : Key) = Sum.inr ("q" : Str)) := by decide +kernel
  have v0 : ∀ k : Key, valV ([] : List (Key × V)) k = none := fun k => rfl
  show putK (putK (putK ([] : List (Key × V)) (Sum.inr ("e" : Str)) (.ref a)) (Sum.inr ("p" : Str)) (.ref b)) (Sum.inr ("q" : Str)) (.ref c) = _
  rw [putK_new _ (v0 _)]
  rw [putK_new (kvs := [] ++ [((Sum.inr ("e" : Str) : Key), V.ref a)]) _ (by rw [List.nil_append, valV_neg h1]; rfl)]
  rw [putK_new _ (by rw [List.nil_append, List.cons_append, List.nil_append, valV_neg h2, valV_neg h3]; rfl)]
  rfl
theorem three_val (a b c : Addr) : valV (three_kv a b c) (.inr "e") = some (.ref a) ∧ valV (three_kv a b c) (.inr "p") = some (.ref b) ∧ valV (three_kv a b c) (.inr "q") = some (.ref c) := by
  have h1 : ¬ ((Sum.inr ("e" : Str) : Key) = Sum.inr ("p" : Str)) := by decide +kernel
  have h2 : ¬ ((Sum.inr ("e" : Str) : Key) = Sum.inr ("q" : Str)) := by decide +kernel
  have h3 : ¬ ((Sum.inr ("p" : Str) : Key) = Sum.inr ("q" : Str)) := by decide +kernel
  unfold three_kv
  exact ⟨valV_pos rfl, (valV_neg h1).trans (valV_pos rfl), (valV_neg h2).trans ((valV_neg h3).trans (valV_pos rfl))⟩
def spRels (P : Program) (w : World) : Sp := fun vs H Q _ => ∃ (dr nu : Addr) (n : Nat), vs = [.ref dr, vInt n] ∧ DrAt H dr nu ∧ 1 ≤ n ∧ n ≤ 3 ∧ ∀ H' rd rels, Kx dr H H' → DrAt H' dr nu → LRel P w H' rd rels → RelsOk n rels → Q (.ref rd) H'
theorem sc_L_relations : FnScope ["_law_draws", "_law_n", "_law_rels", "_law_steps", "_law_v"] ["_law_draws", "_law_n"] (defScope s_L_relations) := ⟨rfl, rfl, rfl, by decide +kernel, rfl, by decide +kernel, by decide +kernel⟩
theorem d_L_relations (T : Txt w K mg) : Def P w K mg base CX0 4 ("_law_relations", none) ["_law_draws", "_law_n"] (spRels P w) := by
  refine Def.of0 (k := 3) T.f_L_relations sc_L_relations (fun _ _ _ _ _ _ us hl => match us, hl with | [_, _], _ => rfl) (fun vs H Q E h => ?_) (fun cdv A outer s H vs Q E hr h => ?_)
  · obtain ⟨dr, nu, n, rfl, _⟩ := h
    rfl
  · obtain ⟨dr, nu, n, rfl, d0, n1, n3, q⟩ := h
    refine ⟨_, ((pss_cons (ps_set (i := 2) sc_L_relations.nd rfl (Or.inl rfl) (pe_disp (pps_cons pe_str (pe_f (d_L_relation T) (hr.mono (by decide)) T.g_L_relation pass0 (pa_cons (pv 0) (pa_cons (pv 1) (pa_cons pe_int pa_nil)))) (pps_cons pe_str (pe_f (d_L_relation T) (hr.mono (by decide)) T.g_L_relation pass0 (pa_cons (pv 0) (pa_cons (pv 1) (pa_cons pe_int pa_nil)))) (pps_cons pe_str (pe_f (d_L_relation T) (hr.mono (by decide)) T.g_L_relation pass0 (pa_cons (pv 0) (pa_cons (pv 1) (pa_cons pe_int pa_nil)))) pps_nil))) (by rfl) (by rfl) (fun z => by cases z) (by decide)))
       (pss_cons (ps_if (pt_cmpR op_eq (pe_op op_mod (pe_f (d_L_draw T) (hr.mono (by decide)) T.g_L_draw pass0 (pa_cons (pv 0) pa_nil)) pe_int) pe_int (nomark _))
       (pss_cons (ps_set (i := 3) sc_L_relations.nd rfl (Or.inl rfl) pe_dnewN)
       (pss_cons (ps_for PassesOwn.never rfl (pi_range1 (by rfl) T.b_range (pa_cons (pe_op op_sub (pv 1) pe_int) pa_nil)) (pg_name (i := 4) sc_L_relations.nd rfl (Or.inl rfl))
       (pss_one (ps_asg pe_bl (pg_sub (pv 3) (pe_tup (pa_cons (pv 4) (pa_cons (pe_op op_add (pv 4) pe_int) pa_nil))) (set_N hr.units)))))
       (pss_one (ps_dput (hu_of hr) (pv 2) pe_str (pv 3) rfl))))
       pss_nil)
       (pss_one (ps_ret (pv 2)))))), ?_⟩
    intro rd nrd
    have s0 := same_upd (o := .dK []) nrd
    have e0 : (upd H rd (.dK [])) rd = some (.dK []) := upd_same
    have d1 := d0.same s0
    generalize upd H rd (.dK []) = H0 at s0 e0 d1 ⊢
    refine ⟨_, rfl, _, rfl, dr, nu, n, 2, rfl, d1, n3, by omega, fun H1 fe ke k1 d2 _ he oke lke => ?_⟩
    refine ⟨_, rfl, _, rfl, dr, nu, n, 1, rfl, d2, n3, by omega, fun H2 fp kp k2 d3 _ hp okp lkp => ?_⟩
    refine ⟨_, rfl, _, rfl, dr, nu, n, 0, rfl, d3, n3, by omega, fun H3 fq kq k3 d4 _ hq okq lkq => ?_⟩
    have he2 := d2.nd k2 he
    have he3 := d3.nd k3 he2
    have hp3 := d3.nd k3 hp
    have e1 := k1 _ _ (d1.ne_dk e0) e0
    have e2 := k2 _ _ (d2.ne_dk e1) e1
    have e3 := k3 _ _ (d3.ne_dk e2) e2
    refine ⟨e3, three_kv fe fp fq, rfl, by show 3 ≤ 15; decide, ?_⟩
    rw [three_merge]
    have kH3 : Kx dr H H3 := (Kx.of s0).trans (k1.trans (k2.trans k3))
    have moved' : ∀ {H' : Hp} {kv : List (Key × V)} {o : HO}, H' rd = some (.dK kv) → DrAt H' dr nu → DrAt (upd H' rd o) dr nu := fun {H' kv o} e d => by
      obtain ⟨a', c', ns, g1, g2, hm⟩ := d
      exact ⟨a', c', ns, (upd_ne (ne_of g1 e (by intro z; cases z))).trans g1, (upd_ne (ne_of g2 e (by intro z; cases z))).trans g2, hm⟩
    have ndm : ∀ {H' : Hp} {kv : List (Key × V)} {o : HO} {a : Addr} {ks : List NestedKey}, H' rd = some (.dK kv) → NdAt P w H' a ks → NdAt P w (upd H' rd o) a ks := fun {H' kv o a ks} e nn => by
      refine nn.mono (tupS_upd (fun ys z => by rw [e] at z; cases z)) fun o' eo => ?_
      obtain ⟨xs, ea, _⟩ := nn
      exact (upd_ne (ne_of ea e (by intro z; cases z))).trans eo
    have d5 := moved' (o := .dK (three_kv fe fp fq)) e3 d4
    have he4 := ndm (o := .dK (three_kv fe fp fq)) e3 he3
    have hp4 := ndm (o := .dK (three_kv fe fp fq)) e3 hp3
    have hq4 := ndm (o := .dK (three_kv fe fp fq)) e3 hq
    have e4 : (upd H3 rd (.dK (three_kv fe fp fq))) rd = some (.dK (three_kv fe fp fq)) := upd_same
    have k4 : Kx dr H (upd H3 rd (.dK (three_kv fe fp fq))) := fun b o nb e => (upd_ne (ne_of_none e nrd)).trans (kH3 _ _ nb e)
    generalize upd H3 rd (.dK (three_kv fe fp fq)) = H4 at d5 he4 hp4 hq4 e4 k4 ⊢
    obtain ⟨vz1, vz2, vz3⟩ := three_val fe fp fq
    refine ⟨_, rfl, dr, nu, rfl, d5, fun v H5 v0 v1 k5 d6 => ?_⟩
    have e5 := k5 _ _ (d5.ne_dk e4) e4
    have he5 := d5.nd k5 he4
    have hp5 := d5.nd k5 hp4
    have hq5 := d5.nd k5 hq4
    have k05 := k4.trans k5
    refine ⟨_, _, rfl, rfl, by show (0 : Int) < 3; decide, rfl, _, rfl, iteB (fun _ => ?_) (fun _ => ?_)⟩
    · intro st nst m0 hm0
      have ss := same_upd (o := m0) nst
      have d7 := d6.same ss
      have e6 := ss _ _ e5
      have hp6 := hp5.mono (Same.tupS ss) fun o e => ss _ _ e
      have hq6 := hq5.mono (Same.tupS ss) fun o e => ss _ _ e
      have nst0 : H st = none := by
        cases hst : H st with
        | none => rfl
        | some o =>
          by_cases hsd : st = dr
          · obtain ⟨a, c, e⟩ := d6.lst
            rw [hsd, e] at nst
            cases nst
          · rw [k05 _ _ hsd hst] at nst
            cases nst
      have k06 : Kx dr H (upd H5 st m0) := k05.trans (.of ss)
      have nrs : rd ≠ st := ne_of_none e5 nst
      have nfp : fp ≠ st := by
        obtain ⟨xs, ea, _⟩ := hp5
        exact ne_of_none ea nst
      have nfq : fq ≠ st := by
        obtain ⟨xs, ea, _⟩ := hq5
        exact ne_of_none ea nst
      generalize upd H5 st m0 = H6 at hm0 ss d7 e6 hp6 hq6 k06 ⊢
      refine ⟨_, rfl, _, _, rfl, rfl, ((n : Int) - 1), rfl, by omega, by omega, for_range (n := ((n : Int) - 1).toNat) (fun i σ H' => Kx dr H H' ∧ DrAt H' dr nu ∧ H' rd = some (.dK (three_kv fe fp fq)) ∧ NdAt P w H' fp (kp.map rowK) ∧ NdAt P w H' fq (kq.map rowK) ∧ (∃ fs : List (List Int), NdAt P w H' st (fs.map rowK) ∧ RowsOk n 2 fs ∧ fs.length ≤ i) ∧
        ∃ v, σ = [some (.ref dr), some (vInt n), some (.ref rd), some (.ref st), v]) ⟨k06, d7, e6, hp6, hq6, ⟨[], hm0, fun r hr => (nomatch hr), Nat.le_refl _⟩, _, rfl⟩ ?_ ?_⟩
      · rintro i σ H7 hi ⟨k7, d8, e7, hp7, hq7, ⟨fs, hf7, okf, lf⟩, v, rfl⟩
        refine ⟨_, rfl, _, rfl, _, rfl, _, _, rfl, rfl, by show 2 ≤ sizeLine; decide, fun t nt => ?_⟩
        have st8 := same_upd (o := .tup [.int (0 + (i : Nat)), .int (0 + (i : Nat) + 1)]) nt
        have hf8 := hf7.mono (Same.tupS st8) fun o e => st8 _ _ e
        have kk : KyT (upd H7 t (.tup [.int (0 + (i : Nat)), .int (0 + (i : Nat) + 1)])) (rowK [(0 + (i : Nat) : Int), 0 + (i : Nat) + 1]) (.ref t) := .tup upd_same (kyTs_nums [(0 + (i : Nat) : Int), 0 + (i : Nat) + 1])
        have d9 := d8.same st8
        have e8 := st8 _ _ e7
        have hp8 := hp7.mono (Same.tupS st8) fun o e => st8 _ _ e
        have hq8 := hq7.mono (Same.tupS st8) fun o e => st8 _ _ e
        have k8 := k7.trans (.of st8)
        generalize upd H7 t (.tup [.int (0 + (i : Nat)), .int (0 + (i : Nat) + 1)]) = H8 at st8 hf8 kk d9 e8 hp8 hq8 k8 ⊢
        refine ⟨st, _, _, rfl, ⟨_, rfl⟩, kk, rowK_depth _, hf8, by rw [List.length_map, sizeLine_eq]; omega, fun n9 hn9 => ?_⟩
        have nne : ∀ {a : Addr} {ks : List NestedKey}, NdAt P w H8 a ks → a ≠ st → NdAt P w (upd H8 st n9) a ks := fun {a ks} nn na => nn.mono (tupS_upd (fun ys z => by
          obtain ⟨xs, ea, _⟩ := hf8
          rw [ea] at z
          cases z)) fun o' eo => (upd_ne na).trans eo
        have ndf : dr ≠ st := (d9.ne_nd hf8).symm
        have d10 : DrAt (upd H8 st n9) dr nu := by
          obtain ⟨a', c', ns, g1, g2, hm⟩ := d9
          refine ⟨a', c', ns, (upd_ne ndf).trans g1, (upd_ne ?_).trans g2, hm⟩
          obtain ⟨xs, eb, _⟩ := hf8
          exact ne_of g2 eb (by intro z; cases z)
        refine ⟨fun b o nb e => (upd_ne (ne_of_none e nst0)).trans (k8 _ _ nb e), d10, (upd_ne nrs).trans e8, nne hp8 nfp, nne hq8 nfq, ?_, _, rfl⟩
        by_cases hin : rowK [(0 + (i : Nat) : Int), 0 + (i : Nat) + 1] ∈ fs.map rowK
        · rw [if_pos hin] at hn9
          exact ⟨fs, hn9, okf, by omega⟩
        · rw [if_neg hin] at hn9
          refine ⟨fs ++ [[(0 + (i : Nat) : Int), 0 + (i : Nat) + 1]], by rw [List.map_append]; exact hn9, okf.snoc rfl (fun v hv => ?_), by rw [List.length_append, List.length_singleton]; omega⟩
          simp only [List.mem_cons, List.not_mem_nil, or_false] at hv
          rcases hv with rfl | rfl <;> omega
      · rintro σ H7 ⟨k7, d8, e7, hp7, hq7, ⟨fs, hf7, okf, lf⟩, v, rfl⟩
        refine ⟨_, rfl, _, rfl, rd, _, rfl, DPut.k (k := Sum.inr ("e" : Str)) e7 (by show 3 < sizeLine; decide), ?_⟩
        have hmk : putK (three_kv fe fp fq) (.inr "e") (.ref st) = three_kv st fp fq := by
          have h1 : ¬ ((Sum.inr ("p" : Str) : Key) = Sum.inr ("e" : Str)) := by decide +kernel
          have h2 : ¬ ((Sum.inr ("q" : Str) : Key) = Sum.inr ("e" : Str)) := by decide +kernel
          unfold three_kv putK
          simp only [List.any_cons, decide_true, Bool.true_or, if_true, List.map_cons, List.map_nil, if_neg h1, if_neg h2]
        rw [hmk]
        have d10 := moved' e7 d8 (o := .dK (three_kv st fp fq))
        have hp8 := ndm (o := .dK (three_kv st fp fq)) e7 hp7
        have hq8 := ndm (o := .dK (three_kv st fp fq)) e7 hq7
        have hf8 := ndm (o := .dK (three_kv st fp fq)) e7 hf7
        obtain ⟨w1, w2, w3⟩ := three_val st fp fq
        refine ⟨_, rfl, q _ rd (three fs kp kq) (fun b o nb e => (upd_ne (ne_of_none e nrd)).trans (k7 _ _ nb e)) d10 ⟨_, upd_same, ?_⟩ (three_ok ⟨okf, by omega⟩ ⟨okp, lkp⟩ ⟨okq, lkq⟩)⟩
        intro r hr
        unfold three at hr
        simp only [List.mem_cons, List.not_mem_nil, or_false] at hr
        rcases hr with rfl | rfl | rfl
        · exact ⟨st, w1, hf8⟩
        · exact ⟨fp, w2, hp8⟩
        · exact ⟨fq, w3, hq8⟩
    · refine ⟨_, rfl, q H5 rd (three ke kp kq) k05 d6 ⟨_, e5, ?_⟩ (three_ok ⟨oke, lke⟩ ⟨okp, lkp⟩ ⟨okq, lkq⟩)⟩
      intro r hr
      unfold three at hr
      simp only [List.mem_cons, List.not_mem_nil, or_false] at hr
      rcases hr with rfl | rfl | rfl
      · exact ⟨fe, vz1, he5⟩
      · exact ⟨fp, vz2, hp5⟩
      · exact ⟨fq, vz3, hq5⟩
end K54
set_option Elab.async false
set_option linter.all false
set_option maxRecDepth 100000
set_option maxHeartbeats 4000000
set_option pp.maxSteps 800
namespace K54
open PySem PySem.Spec PyProof.Rows L2
variable {P : Program} {w : World} {K : PySem.W.Frag} {mg : Str → Option Value} {base : Heap}
theorem rels3 {n : Nat} {rels : List Rl} (h : RelsOk n rels) : ∃ ke kp kq, rels = three ke kp kq := by
  have hz := h.zs
  have hl : rels.length = 3 := by rw [← List.length_map (f := Rl.z), hz]; rfl
  match rels, hl with
  | [r1, r2, r3], _ =>
    simp only [List.map_cons, List.map_nil, List.cons.injEq, and_true] at hz
    have a1 := h.ars r1 (by simp)
    have a2 := h.ars r2 (by simp)
    have a3 := h.ars r3 (by simp)
    obtain ⟨z1, k1, s1⟩ := r1
    obtain ⟨z2, k2, s2⟩ := r2
    obtain ⟨z3, k3, s3⟩ := r3
    obtain ⟨rfl, rfl, rfl⟩ := hz
    refine ⟨s1, s2, s3, ?_⟩
    unfold three
    simp only at a1 a2 a3
    rw [a1, a2, a3]
    rfl
def spMade (P : Program) (w : World) (K : PySem.W.Frag) : Sp := fun vs H Q _ => ∃ (n : Nat) (rd : Addr) (rels : List Rl), vs = [vInt n, .ref rd] ∧ LRel P w H rd rels ∧ RelsOk n rels ∧ 1 ≤ n ∧ n ≤ 3 ∧ ∀ H' p rels', Same H H' → StrAt K H' p n rels' → Paired SameRl rels rels' → Q (.ref p) H'
theorem sc_L_made : FnScope ["_law_n", "_law_rels"] ["_law_n", "_law_rels"] (defScope s_L_made) := ⟨rfl, rfl, rfl, by decide +kernel, rfl, by decide +kernel, by decide +kernel⟩
theorem d_L_made (T : Txt w K mg) : Def P w K mg base CX0 7 ("_law_made", none) ["_law_n", "_law_rels"] (spMade P w K) := by
  refine Def.of0 (k := 6) T.f_L_made sc_L_made (fun _ _ _ _ _ _ us hl => match us, hl with | [_, _], _ => rfl) (fun vs H Q E h => ?_) (fun cdv A outer s H vs Q E hr h => ?_)
  · obtain ⟨n, rd, rels, rfl, _⟩ := h
    rfl
  · obtain ⟨n, rd, rels, rfl, hl, hok, n1, n3, q⟩ := h
    refine ⟨_, ((pss_one (ps_ret (pe_new (d_Structure_init T) (hr.mono (by decide)) T.mk_Structure T.g_Structure pass0 (pa_cons (pv 0) (pa_cons (pe_lst (pa_cons (pe_tup (pa_cons pe_str (pa_cons pe_int (pa_cons (pe_ty (cr_listN rfl) T.b_list (pa_cons (pe_dget (hu_of hr) (pv 1) pe_str (fun _ _ => rfl)) pa_nil)) pa_nil)))) (pa_cons (pe_tup (pa_cons pe_str (pa_cons pe_int (pa_cons (pe_ty (cr_listN rfl) T.b_list (pa_cons (pe_dget (hu_of hr) (pv 1) pe_str (fun _ _ => rfl)) pa_nil)) pa_nil)))) (pa_cons (pe_tup (pa_cons pe_str (pa_cons pe_int (pa_cons (pe_ty (cr_listN rfl) T.b_list (pa_cons (pe_dget (hu_of hr) (pv 1) pe_str (fun _ _ => rfl)) pa_nil)) pa_nil)))) pa_nil)))) pa_nil)))))), ?_⟩
    obtain ⟨ke, kp, kq, rfl⟩ := rels3 hok
    obtain ⟨kvs, ed, hr⟩ := hl
    obtain ⟨ae, ve, ne⟩ := hr ⟨.e, 2, ke⟩ (by simp [three])
    obtain ⟨ap, vp, np⟩ := hr ⟨.p, 1, kp⟩ (by simp [three])
    obtain ⟨aq, vq, nq⟩ := hr ⟨.q, 0, kq⟩ (by simp [three])
    have mv : ∀ {H' : Hp} {a : Addr} {ks : List NestedKey}, Same H H' → NdAt P w H a ks → NdAt P w H' a ks := fun {H' a ks} s nn => nn.mono (Same.tupS s) fun o e => s _ _ e
    refine ⟨_, rfl, ?_⟩
    refine ⟨_, rfl, rd, _, rfl, ve ▸ DGet.k (k := Sum.inr ("e" : Str)) ed, ae, _, rfl, ne, fun l1 as1 nl1 r1 => ⟨by show 3 ≤ sizeLine; decide, fun t1 nt1 => ?_⟩⟩
    have sa := same_upd (o := .lst (as1.map V.ref)) nl1
    have sb := same_upd (o := .tup [.str "e", .int 2, .ref l1]) nt1
    have s1 := Same.tr sa sb
    have w1 : RawT (upd (upd H l1 (.lst (as1.map V.ref))) t1 (.tup [.str "e", .int 2, .ref l1])) (.ref t1) ⟨.e, 2, ke⟩ := ⟨t1, l1, as1, rfl, upd_same, sb _ _ upd_same, refsOf_mono (Same.tupS s1) r1⟩
    generalize upd (upd H l1 (.lst (as1.map V.ref))) t1 (.tup [.str "e", .int 2, .ref l1]) = H1 at s1 w1 ⊢
    clear sa sb
    refine ⟨_, rfl, rd, _, rfl, vp ▸ DGet.k (k := Sum.inr ("p" : Str)) (s1 _ _ ed), ap, _, rfl, mv s1 np, fun l2 as2 nl2 r2 => ⟨by show 3 ≤ sizeLine; decide, fun t2 nt2 => ?_⟩⟩
    have sa := same_upd (o := .lst (as2.map V.ref)) nl2
    have sb := same_upd (o := .tup [.str "p", .int 1, .ref l2]) nt2
    have s2 := Same.tr sa sb
    have w2 : RawT (upd (upd H1 l2 (.lst (as2.map V.ref))) t2 (.tup [.str "p", .int 1, .ref l2])) (.ref t2) ⟨.p, 1, kp⟩ := ⟨t2, l2, as2, rfl, upd_same, sb _ _ upd_same, refsOf_mono (Same.tupS s2) r2⟩
    generalize upd (upd H1 l2 (.lst (as2.map V.ref))) t2 (.tup [.str "p", .int 1, .ref l2]) = H2 at s2 w2 ⊢
    clear sa sb
    have s12 := Same.tr s1 s2
    refine ⟨_, rfl, rd, _, rfl, vq ▸ DGet.k (k := Sum.inr ("q" : Str)) (s12 _ _ ed), aq, _, rfl, mv s12 nq, fun l3 as3 nl3 r3 => ⟨by show 3 ≤ sizeLine; decide, fun t3 nt3 => ?_⟩⟩
    have sa := same_upd (o := .lst (as3.map V.ref)) nl3
    have sb := same_upd (o := .tup [.str "q", .int 0, .ref l3]) nt3
    have s3 := Same.tr sa sb
    have w3 : RawT (upd (upd H2 l3 (.lst (as3.map V.ref))) t3 (.tup [.str "q", .int 0, .ref l3])) (.ref t3) ⟨.q, 0, kq⟩ := ⟨t3, l3, as3, rfl, upd_same, sb _ _ upd_same, refsOf_mono (Same.tupS s3) r3⟩
    generalize upd (upd H2 l3 (.lst (as3.map V.ref))) t3 (.tup [.str "q", .int 0, .ref l3]) = H3 at s3 w3 ⊢
    clear sa sb
    refine ⟨by show 3 ≤ sizeLine; decide, fun l nl => ?_⟩
    have s4 := same_upd (o := .lst [.ref t1, .ref t2, .ref t3]) nl
    have el : (upd H3 l (.lst [.ref t1, .ref t2, .ref t3])) l = _ := upd_same
    have w1 := (w1.mono s2).mono (Same.tr s3 s4)
    have w2 := w2.mono (Same.tr s3 s4)
    have w3 := w3.mono s4
    generalize upd H3 l (.lst [.ref t1, .ref t2, .ref t3]) = H4 at s4 el w1 w2 w3 ⊢
    intro p dx npp ndx ndp
    have s5 : Same H4 (upd (upd H4 dx (.own p)) p (.ins (He.ga K "Structure") dx [])) := Same.tr (same_upd ndx) (same_upd (by rw [upd_ne ndp.symm]; exact npp))
    refine ⟨p, dx, l, n, _, three ke kp kq, rfl, upd_same, s5 _ _ el, .cons (w1.mono s5) (.cons (w2.mono s5) (.cons (w3.mono s5) .nil)), fun r hr' => ?_, by show [Nm.e, Nm.p, Nm.q].Nodup; decide, by show 3 ≤ 6; decide, n1, by omega, fun H6 rels' k6 st6 pr => ⟨rfl, ?_⟩⟩
    · have hrow := hok.rows r hr'
      have har := hok.ars r hr'
      refine ⟨?_, by omega, hrow.1⟩
      rw [har]
      cases r.z <;> decide
    · refine q H6 p rels' (fun b o e => ?_) st6 pr
      have e4 := s4 _ _ (s3 _ _ (s12 _ _ e))
      exact k6 _ _ (ne_of_none e4 npp) (s5 _ _ e4)
end K54
set_option Elab.async false
set_option linter.all false
set_option maxRecDepth 100000
set_option maxHeartbeats 4000000
set_option pp.maxSteps 800
namespace K54
open PySem PySem.Spec PyProof.Rows L2
variable {P : Program} {w : World} {K : PySem.W.Frag} {mg : Str → Option Value} {base : Heap}
theorem mod_nat {v : Int} {h : Nat} (h0 : 0 < h) : ∃ i : Nat, i < h ∧ v % (h : Int) = (i : Int) := by
  have h1 := Int.emod_nonneg v (b := (h : Int)) (by omega)
  have h2 := Int.emod_lt_of_pos v (b := (h : Int)) (by omega)
  exact ⟨(v % (h : Int)).toNat, by omega, by omega⟩
theorem dv_tup {H : Hp} {t : Addr} {xs : List V} {ds : List PyData} (h : DvAll H xs ds) (n : H t = none) : Dv (upd H t (.tup xs)) (.ref t) (.tuple ds) := .tup upd_same (h.mono (same_upd n))
def spCnd : Sp := fun vs H Q _ => ∃ (dr nu tp : Addr) (h : Nat), vs = [.ref dr, vInt h, .ref tp] ∧ DrAt H dr nu ∧ H tp = some (.tup []) ∧ ∀ v H' c, Kx dr H H' → DrAt H' dr nu → Dv H' v (condD c) → condOk h c → Q v H'
theorem sc_L_condition : FnScope ["_law_draws", "_law_heads", "_law_tapes", "_law_flag", "_law_pick", "_law_i", "_law_j", "_law_tape", "_law_places", "_law_k"] ["_law_draws", "_law_heads", "_law_tapes"] (defScope s_L_condition) := ⟨rfl, rfl, rfl, by decide +kernel, rfl, by decide +kernel, by decide +kernel⟩
theorem d_L_condition (T : Txt w K mg) : Def P w K mg base CX0 3 ("_law_condition", none) ["_law_draws", "_law_heads", "_law_tapes"] (spCnd) := by
  refine Def.of0 (k := 2) T.f_L_condition sc_L_condition (fun _ _ _ _ _ _ us hl => match us, hl with | [_, _, _], _ => rfl) (fun vs H Q E h => ?_) (fun cdv A outer s H vs Q E hr h => ?_)
  · obtain ⟨dr, nu, tp, h, rfl, _⟩ := h
    rfl
  · obtain ⟨dr, nu, tp, hh, rfl, d0, et, q⟩ := h
    refine ⟨_, ((pss_cons (ps_set (i := 3) sc_L_condition.nd rfl (Or.inl rfl) (pe_cmpR op_eq (pe_op op_mod (pe_f (d_L_draw T) (hr.mono (by decide)) T.g_L_draw pass0 (pa_cons (pv 0) pa_nil)) pe_int) pe_int (nomark _)))
       (pss_cons (ps_set (i := 4) sc_L_condition.nd rfl (Or.inl rfl) (pe_op op_mod (pe_f (d_L_draw T) (hr.mono (by decide)) T.g_L_draw pass0 (pa_cons (pv 0) pa_nil)) pe_int))
       (pss_cons (ps_if (pt_cmpR op_eq (pv 1) pe_int (nomark _))
       (pss_one (ps_ret (pe_tup (pa_cons pe_str (pa_cons pe_str (pa_cons (pe_tup pa_nil) (pa_cons (pv 3) pa_nil)))))))
       pss_nil)
       (pss_cons (ps_set (i := 5) sc_L_condition.nd rfl (Or.inl rfl) (pe_op op_mod (pe_f (d_L_draw T) (hr.mono (by decide)) T.g_L_draw pass0 (pa_cons (pv 0) pa_nil)) (pv 1)))
       (pss_cons (ps_set (i := 6) sc_L_condition.nd rfl (Or.inl rfl) (pe_op op_mod (pe_f (d_L_draw T) (hr.mono (by decide)) T.g_L_draw pass0 (pa_cons (pv 0) pa_nil)) (pv 1)))
       (pss_cons (ps_if (pt_cmpR op_lt (pv 4) pe_int (nomark _))
       (pss_one (ps_ret (pe_tup (pa_cons pe_str (pa_cons pe_str (pa_cons (pe_tup (pa_cons (pv 5) (pa_cons (pv 6) pa_nil))) (pa_cons (pv 3) pa_nil)))))))
       pss_nil)
       (pss_cons (ps_if (pt_cmpR op_eq (pv 4) pe_int (nomark _))
       (pss_one (ps_ret (pe_tup (pa_cons pe_str (pa_cons pe_str (pa_cons (pe_tup (pa_cons (pv 5) pa_nil)) (pa_cons (pv 3) pa_nil)))))))
       pss_nil)
       (pss_cons (ps_if (pt_cmpR op_eq (pv 4) pe_int (nomark _))
       (pss_one (ps_ret (pe_ix ix_list (pe_lst (pa_cons (pe_tup (pa_cons pe_str (pa_cons (pv 5) (pa_cons (pv 6) (pa_cons (pv 3) pa_nil))))) (pa_cons (pe_tup (pa_cons pe_str (pa_cons (pv 5) (pa_cons (pv 6) (pa_cons (pv 3) pa_nil))))) pa_nil))) (pe_op op_mod (pe_f (d_L_draw T) (hr.mono (by decide)) T.g_L_draw pass0 (pa_cons (pv 0) pa_nil)) pe_int) (fun _ _ => rfl))))
       pss_nil)
       (pss_cons (ps_if (PW.pt (pw_and (pt_cmpR op_lt (pv 4) pe_int (nomark _)) (pw_and1 (pt_cmpR op_gt (pe_b call_len_seq T.b_len (pa_cons (pv 2) pa_nil)) pe_int (nomark _)))))
       (pss_cons (ps_set (i := 7) sc_L_condition.nd rfl (Or.inl rfl) (pe_op op_mod (pe_f (d_L_draw T) (hr.mono (by decide)) T.g_L_draw pass0 (pa_cons (pv 0) pa_nil)) (pe_b call_len_seq T.b_len (pa_cons (pv 2) pa_nil))))
       (pss_cons (ps_set (i := 8) sc_L_condition.nd rfl (Or.inl rfl) (pe_ty call_tuple_of T.b_tuple (pa_cons (pe_lc (own := [("_law_k", 9)]) (g := (gName 9)) (by rfl) sc_L_condition.nd (pi_range1 (by rfl) T.b_range (pa_cons (pe_ix ix_tup (pv 2) (pv 7) (fun _ _ => rfl)) pa_nil)) (blkOk_by (own := [("_law_k", 9)]) (N := ["_law_draws", "_law_heads", "_law_tapes", "_law_flag", "_law_pick", "_law_i", "_law_j", "_law_tape", "_law_places", "_law_k"]) (sc := defScope s_L_condition) (by decide +kernel)) (fun _ _ _ _ _ => (pg_name (i := 9) sc_L_condition.nd rfl (Or.inl rfl) (Or.inr rfl))) (fun _ _ _ _ _ => pts_nil) (fun _ _ _ _ _ => (pe_op op_mod (pe_f (d_L_draw (P := P) (base := base) T) (hr.mono (by decide)) T.g_L_draw pass0 (pa_cons (pv 0) pa_nil)) (pv 1)))) pa_nil)))
       (pss_one (ps_ret (pe_tup (pa_cons pe_str (pa_cons (pv 7) (pa_cons (pv 8) (pa_cons (pv 3) pa_nil)))))))))
       pss_nil)
       (pss_one (ps_ret (pe_tup (pa_cons pe_str (pa_cons (pv 5) (pa_cons (pv 3) pa_nil)))))))))))))))), ?_⟩
    refine ⟨_, rfl, dr, nu, rfl, d0, fun v1 H1 v10 v11 k1 d1 => ⟨_, _, rfl, rfl, by show (0 : Int) < 2; decide, rfl, ?_⟩⟩
    dsimp only
    generalize hf : decide (V.int (v1 % 2) = V.int 0) = f
    have t1 := d0.tups k1
    refine ⟨_, rfl, dr, nu, rfl, d1, fun v2 H2 v20 v21 k2 d2 => ⟨_, _, rfl, rfl, by show (0 : Int) < 8; decide, ?_⟩⟩
    have t2 := d1.tups k2
    have p1 := Int.emod_nonneg v2 (b := 8) (by decide)
    have p2 := Int.emod_lt_of_pos v2 (b := 8) (by decide)
    dsimp only
    generalize v2 % 8 = pick at p1 p2 ⊢
    have k02 := k1.trans k2
    refine ⟨_, rfl, rfl, _, rfl, ?_⟩
    rw [dec_int]
    refine iteB (fun hz => ?_) (fun hz => ?_)
    · refine ⟨Nat.zero_le _, fun t nt => ⟨_, rfl, by show 4 ≤ sizeLine; decide, fun t' nt' => ?_⟩⟩
      have s1 := same_upd (o := .tup []) nt
      have s2 := same_upd (o := .tup [.str "rel", .str "q", .ref t, .bl f]) nt'
      refine q _ _ (.rel .q [] f) (k02.trans (.of (Same.tr s1 s2))) ((d2.same s1).same s2) (dv_tup (.cons (.str _) (.cons (.str _) (.cons (.tup upd_same .nil) (.cons (.bl _) .nil)))) nt') ⟨rfl, fun i hi => (nomatch hi)⟩
    · have hh0 : 0 < hh := by
        have := ne_of_beq_false hz
        omega
      refine ⟨_, rfl, dr, nu, rfl, d2, fun v3 H3 v30 v31 k3 d3 => ⟨_, rfl, _, _, rfl, rfl, by show (0 : Int) < hh; omega, ?_⟩⟩
      obtain ⟨i, hi, ei⟩ := mod_nat (v := v3) hh0
      dsimp only
      rw [ei]
      refine ⟨_, rfl, dr, nu, rfl, d3, fun v4 H4 v40 v41 k4 d4 => ⟨_, rfl, _, _, rfl, rfl, by show (0 : Int) < hh; omega, ?_⟩⟩
      obtain ⟨j, hj, ej⟩ := mod_nat (v := v4) hh0
      dsimp only
      rw [ej]
      have k04 := k02.trans (k3.trans k4)
      have et4 := (t1.trans (t2.trans ((d2.tups k3).trans (d3.tups k4)))) _ _ et
      refine ⟨_, rfl, _, _, rfl, rfl, _, rfl, iteB (fun hp => ?_) (fun hp => ?_)⟩
      · refine ⟨_, rfl, _, rfl, by show 2 ≤ sizeLine; decide, fun t nt => ⟨_, rfl, by show 4 ≤ sizeLine; decide, fun t' nt' => ?_⟩⟩
        have s1 := same_upd (o := .tup [vInt i, vInt j]) nt
        have s2 := same_upd (o := .tup [.str "rel", .str "e", .ref t, .bl f]) nt'
        refine q _ _ (.rel .e [i, j] f) (k04.trans (.of (Same.tr s1 s2))) ((d4.same s1).same s2) (dv_tup (.cons (.str _) (.cons (.str _) (.cons (.tup upd_same (.cons (.int _) (.cons (.int _) .nil))) (.cons (.bl _) .nil)))) nt') ⟨rfl, fun x hx => ?_⟩
        simp only [List.mem_cons, List.not_mem_nil, or_false] at hx
        rcases hx with rfl | rfl <;> assumption
      refine ⟨_, rfl, rfl, _, rfl, iteB (fun hp2 => ?_) (fun hp2 => ?_)⟩
      · refine ⟨_, rfl, by show 1 ≤ sizeLine; decide, fun t nt => ⟨_, rfl, by show 4 ≤ sizeLine; decide, fun t' nt' => ?_⟩⟩
        have s1 := same_upd (o := .tup [vInt i]) nt
        have s2 := same_upd (o := .tup [.str "rel", .str "p", .ref t, .bl f]) nt'
        refine q _ _ (.rel .p [i] f) (k04.trans (.of (Same.tr s1 s2))) ((d4.same s1).same s2) (dv_tup (.cons (.str _) (.cons (.str _) (.cons (.tup upd_same (.cons (.int _) .nil)) (.cons (.bl _) .nil)))) nt') ⟨rfl, fun x hx => ?_⟩
        rw [List.mem_singleton.mp hx]
        exact hi
      refine ⟨_, rfl, rfl, _, rfl, iteB (fun hp3 => ?_) (fun hp3 => ?_)⟩
      · refine ⟨_, rfl, _, rfl, _, rfl, by show 4 ≤ sizeLine; decide, fun ta nta => ⟨_, rfl, _, rfl, _, rfl, by show 4 ≤ sizeLine; decide, fun tb ntb => ⟨by show 2 ≤ sizeLine; decide, fun l nl => ?_⟩⟩⟩
        have s1 := same_upd (o := .tup [.str "eq", vInt i, vInt j, .bl f]) nta
        have s2 := same_upd (o := .tup [.str "less", vInt i, vInt j, .bl f]) ntb
        have s3 := same_upd (o := .lst [.ref ta, .ref tb]) nl
        have c1 : Dv (upd H4 ta (.tup [.str "eq", vInt i, vInt j, .bl f])) (.ref ta) (condD (.eq i j f)) := dv_tup (.cons (.str _) (.cons (.int _) (.cons (.int _) (.cons (.bl _) .nil)))) nta
        have c2 := dv_tup (H := upd H4 ta (.tup [.str "eq", vInt i, vInt j, .bl f])) (xs := [.str "less", vInt i, vInt j, .bl f]) (ds := [.str "less", dInt i, dInt j, .bool f]) (.cons (.str _) (.cons (.int _) (.cons (.int _) (.cons (.bl _) .nil)))) ntb
        have c1 := (c1.mono s2).mono s3
        have c2 := c2.mono s3
        have el : (upd (upd (upd H4 ta (.tup [.str "eq", vInt i, vInt j, .bl f])) tb (.tup [.str "less", vInt i, vInt j, .bl f])) l (.lst [.ref ta, .ref tb])) l = _ := upd_same
        have s4 := Same.tr s1 (Same.tr s2 s3)
        generalize upd (upd (upd H4 ta (.tup [.str "eq", vInt i, vInt j, .bl f])) tb (.tup [.str "less", vInt i, vInt j, .bl f])) l (.lst [.ref ta, .ref tb]) = H5 at s4 el c1 c2 ⊢
        have d5 := d4.same s4
        refine ⟨_, rfl, dr, nu, rfl, d5, fun v6 H6 v60 v61 k6 d6 => ⟨_, _, rfl, rfl, by show (0 : Int) < 2; decide, ?_⟩⟩
        have t6 := d5.tups k6
        have nld : l ≠ dr := d5.ne_refs (as := [ta, tb]) el
        have el6 := k6 _ _ nld el
        have k06 := k04.trans ((Kx.of s4).trans k6)
        obtain ⟨b, hb, eb⟩ := mod_nat (v := v6) (h := 2) (by decide)
        have eb : v6 % 2 = (b : Int) := eb
        dsimp only
        rw [eb]
        have : b = 0 ∨ b = 1 := by omega
        rcases this with rfl | rfl
        · exact ⟨l, _, (0 : Int), _, rfl, rfl, SqL.of el6, rfl, q _ _ (.eq i j f) k06 d6 (c1.monoT t6 (noL_cond _)) ⟨hi, hj⟩⟩
        · exact ⟨l, _, (1 : Int), _, rfl, rfl, SqL.of el6, rfl, q _ _ (.less i j f) k06 d6 (c2.monoT t6 (noL_cond (.less i j f))) ⟨hi, hj⟩⟩
      have last : ∀ (t : Addr), H4 t = none → Q (.ref t) (upd H4 t (.tup [.str "last", vInt i, .bl f])) := fun t nt => by
        have s1 := same_upd (o := .tup [.str "last", vInt i, .bl f]) nt
        exact q _ _ (.last i f) (k04.trans (.of s1)) (d4.same s1) (dv_tup (.cons (.str _) (.cons (.int _) (.cons (.bl _) .nil))) nt) hi
      refine ⟨_, rfl, _, _, rfl, rfl, _, rfl, iteB (fun hp4 => ?_) (fun hp4 => ?_)⟩
      · refine ⟨_, rfl, tp, _, rfl, .inr (SqT.of et4), _, _, rfl, rfl, _, rfl, iteFb rfl ?_⟩
        exact ⟨_, rfl, _, rfl, by show 3 ≤ sizeLine; decide, fun t nt => last t nt⟩
      · exact ⟨_, rfl, _, rfl, by show 3 ≤ sizeLine; decide, fun t nt => last t nt⟩
def spActn : Sp := fun vs H Q _ => ∃ (dr nu tp : Addr) (h : Nat), vs = [.ref dr, vInt h, .ref tp] ∧ DrAt H dr nu ∧ H tp = some (.tup []) ∧ ∀ v H', Kx dr H H' → DrAt H' dr nu → (v = .non ∨ ∃ a c, v = .ref a ∧ Dv H' v (actD c) ∧ actOk h c) → Q v H'
theorem sc_L_action : FnScope ["_law_draws", "_law_heads", "_law_tapes", "_law_pick", "_law_tape", "_law_places", "_law_i", "_law_k"] ["_law_draws", "_law_heads", "_law_tapes"] (defScope s_L_action) := ⟨rfl, rfl, rfl, by decide +kernel, rfl, by decide +kernel, by decide +kernel⟩
theorem d_L_action (T : Txt w K mg) : Def P w K mg base CX0 3 ("_law_action", none) ["_law_draws", "_law_heads", "_law_tapes"] (spActn) := by
  refine Def.of0 (k := 2) T.f_L_action sc_L_action (fun _ _ _ _ _ _ us hl => match us, hl with | [_, _, _], _ => rfl) (fun vs H Q E h => ?_) (fun cdv A outer s H vs Q E hr h => ?_)
  · obtain ⟨dr, nu, tp, h, rfl, _⟩ := h
    rfl
  · obtain ⟨dr, nu, tp, hh, rfl, d0, et, q⟩ := h
    refine ⟨_, ((pss_cons (ps_set (i := 3) sc_L_action.nd rfl (Or.inl rfl) (pe_op op_mod (pe_f (d_L_draw T) (hr.mono (by decide)) T.g_L_draw pass0 (pa_cons (pv 0) pa_nil)) pe_int))
       (pss_cons (ps_if (PW.pt (pw_and (pt_cmpR op_eq (pv 1) pe_int (nomark _)) (pw_and1 (pt_cmpR op_eq (pe_b call_len_seq T.b_len (pa_cons (pv 2) pa_nil)) pe_int (nomark _)))))
       (pss_one (ps_ret pe_non))
       pss_nil)
       (pss_cons (ps_if (PW.pt (pw_and (pt_cmpR op_gt (pe_b call_len_seq T.b_len (pa_cons (pv 2) pa_nil)) pe_int (nomark _)) (pw_and1 (PW.pt (pw_or (pt_cmpR op_eq (pv 1) pe_int (nomark _)) (pw_or1 (pt_cmpR op_lt (pv 3) pe_int (nomark _))))))))
       (pss_cons (ps_set (i := 4) sc_L_action.nd rfl (Or.inl rfl) (pe_op op_mod (pe_f (d_L_draw T) (hr.mono (by decide)) T.g_L_draw pass0 (pa_cons (pv 0) pa_nil)) (pe_b call_len_seq T.b_len (pa_cons (pv 2) pa_nil))))
       (pss_cons (ps_if (PW.pt (pw_and (pt_cmpR op_eq (pv 1) pe_int (nomark _)) (pw_and1 (pt_cmpR op_gt (pe_ix ix_tup (pv 2) (pv 4) (fun _ _ => rfl)) pe_int (nomark _)))))
       (pss_one (ps_ret pe_non))
       pss_nil)
       (pss_cons (ps_set (i := 5) sc_L_action.nd rfl (Or.inl rfl) (pe_ty call_tuple_of T.b_tuple (pa_cons (pe_lc (own := [("_law_k", 7)]) (g := (gName 7)) (by rfl) sc_L_action.nd (pi_range1 (by rfl) T.b_range (pa_cons (pe_ix ix_tup (pv 2) (pv 4) (fun _ _ => rfl)) pa_nil)) (blkOk_by (own := [("_law_k", 7)]) (N := ["_law_draws", "_law_heads", "_law_tapes", "_law_pick", "_law_tape", "_law_places", "_law_i", "_law_k"]) (sc := defScope s_L_action) (by decide +kernel)) (fun _ _ _ _ _ => (pg_name (i := 7) sc_L_action.nd rfl (Or.inl rfl) (Or.inr rfl))) (fun _ _ _ _ _ => pts_nil) (fun _ _ _ _ _ => (pe_op op_mod (pe_f (d_L_draw (P := P) (base := base) T) (hr.mono (by decide)) T.g_L_draw pass0 (pa_cons (pv 0) pa_nil)) (pv 1)))) pa_nil)))
       (pss_one (ps_ret (pe_tup (pa_cons pe_str (pa_cons (pv 4) (pa_cons (pv 5) (pa_cons (pe_cmpR op_gt (pe_op op_mod (pe_f (d_L_draw T) (hr.mono (by decide)) T.g_L_draw pass0 (pa_cons (pv 0) pa_nil)) pe_int) pe_int (nomark _)) pa_nil))))))))))
       pss_nil)
       (pss_cons (ps_set (i := 6) sc_L_action.nd rfl (Or.inl rfl) (pe_op op_mod (pe_f (d_L_draw T) (hr.mono (by decide)) T.g_L_draw pass0 (pa_cons (pv 0) pa_nil)) (pv 1)))
       (pss_cons (ps_if (pt_cmpR op_lt (pv 3) pe_int (nomark _))
       (pss_one (ps_ret (pe_ix ix_list (pe_lst (pa_cons (pe_tup (pa_cons pe_str (pa_cons (pv 6) pa_nil))) (pa_cons (pe_tup (pa_cons pe_str (pa_cons (pv 6) pa_nil))) (pa_cons (pe_tup (pa_cons pe_str (pa_cons (pv 6) pa_nil))) pa_nil)))) (pe_op op_mod (pv 3) pe_int) (fun _ _ => rfl))))
       pss_nil)
       (pss_one (ps_ret (pe_ix ix_list (pe_lst (pa_cons (pe_tup (pa_cons pe_str (pa_cons (pv 6) pa_nil))) (pa_cons (pe_tup (pa_cons pe_str (pa_cons (pv 6) (pa_cons (pe_op op_mod (pe_f (d_L_draw T) (hr.mono (by decide)) T.g_L_draw pass0 (pa_cons (pv 0) pa_nil)) (pv 1)) pa_nil)))) pa_nil))) (pe_op op_sub (pv 3) pe_int) (fun _ _ => rfl)))))))))), ?_⟩
    refine ⟨_, rfl, dr, nu, rfl, d0, fun v1 H1 v10 v11 k1 d1 => ⟨_, _, rfl, rfl, by show (0 : Int) < 7; decide, ?_⟩⟩
    have et1 := d0.tups k1 _ _ et
    have p1 := Int.emod_nonneg v1 (b := 7) (by decide)
    have p2 := Int.emod_lt_of_pos v1 (b := 7) (by decide)
    dsimp only
    generalize v1 % 7 = pick at p1 p2 ⊢
    refine ⟨_, rfl, rfl, _, rfl, ?_⟩
    rw [dec_int]
    refine iteB (fun hz => ?_) (fun hz => ?_)
    · refine ⟨_, rfl, tp, _, rfl, .inr (SqT.of et1), rfl, _, rfl, iteTb rfl ?_⟩
      exact q _ H1 k1 d1 (.inl rfl)
    · have hh0 : 0 < hh := by
        have := ne_of_beq_false hz
        omega
      refine ⟨_, rfl, tp, _, rfl, .inr (SqT.of et1), _, _, rfl, rfl, _, rfl, iteFb rfl ?_⟩
      refine ⟨_, rfl, dr, nu, rfl, d1, fun v3 H3 v30 v31 k3 d3 => ⟨_, rfl, _, _, rfl, rfl, by show (0 : Int) < hh; omega, ?_⟩⟩
      obtain ⟨i, hi, ei⟩ := mod_nat (v := v3) hh0
      dsimp only
      rw [ei]
      have k03 := k1.trans k3
      refine ⟨_, rfl, _, _, rfl, rfl, _, rfl, iteB (fun hp => ?_) (fun hp => ?_)⟩
      · refine ⟨_, rfl, by show 2 ≤ sizeLine; decide, fun ta nta => ⟨_, rfl, by show 2 ≤ sizeLine; decide, fun tb ntb => ⟨_, rfl, by show 2 ≤ sizeLine; decide, fun tc ntc => ⟨by show 3 ≤ sizeLine; decide, fun l nl => ?_⟩⟩⟩⟩
        have s1 := same_upd (o := .tup [.str "up", vInt i]) nta
        have s2 := same_upd (o := .tup [.str "up", vInt i]) ntb
        have s3 := same_upd (o := .tup [.str "down", vInt i]) ntc
        have s4 := same_upd (o := .lst [.ref ta, .ref tb, .ref tc]) nl
        have c1 := (((dv_tup (ds := [.str "up", dInt i]) (.cons (.str _) (.cons (.int _) .nil)) nta).mono s2).mono s3).mono s4
        have c2 := ((dv_tup (ds := [.str "up", dInt i]) (.cons (.str _) (.cons (.int _) .nil)) ntb).mono s3).mono s4
        have c3 := (dv_tup (ds := [.str "down", dInt i]) (.cons (.str _) (.cons (.int _) .nil)) ntc).mono s4
        have el : (upd (upd (upd (upd H3 ta (.tup [.str "up", vInt i])) tb (.tup [.str "up", vInt i])) tc (.tup [.str "down", vInt i])) l (.lst [.ref ta, .ref tb, .ref tc])) l = _ := upd_same
        have s5 := Same.tr s1 (Same.tr s2 (Same.tr s3 s4))
        generalize upd (upd (upd (upd H3 ta (.tup [.str "up", vInt i])) tb (.tup [.str "up", vInt i])) tc (.tup [.str "down", vInt i])) l (.lst [.ref ta, .ref tb, .ref tc]) = H5 at s5 el c1 c2 c3 ⊢
        refine ⟨_, rfl, _, _, rfl, rfl, by show (0 : Int) < 3; decide, ?_⟩
        obtain ⟨b, hb, eb⟩ := mod_nat (v := pick) (h := 3) (by decide)
        have eb : pick % 3 = (b : Int) := eb
        dsimp only
        rw [eb]
        have k05 := k03.trans (.of s5)
        have d5 := d3.same s5
        have : b = 0 ∨ b = 1 ∨ b = 2 := by omega
        rcases this with rfl | rfl | rfl
        · exact ⟨l, _, (0 : Int), _, rfl, rfl, SqL.of el, rfl, q _ _ k05 d5 (.inr ⟨ta, .up i, rfl, c1, hi⟩)⟩
        · exact ⟨l, _, (1 : Int), _, rfl, rfl, SqL.of el, rfl, q _ _ k05 d5 (.inr ⟨tb, .up i, rfl, c2, hi⟩)⟩
        · exact ⟨l, _, (2 : Int), _, rfl, rfl, SqL.of el, rfl, q _ _ k05 d5 (.inr ⟨tc, .down i, rfl, c3, hi⟩)⟩
      · have hp := of_decide_eq_false hp
        refine ⟨_, rfl, by show 2 ≤ sizeLine; decide, fun ta nta => ⟨_, rfl, ?_⟩⟩
        have s1 := same_upd (o := .tup [.str "zero", vInt i]) nta
        have c1 := dv_tup (ds := [.str "zero", dInt i]) (.cons (.str _) (.cons (.int _) .nil)) nta
        have d4 := d3.same s1
        generalize upd H3 ta (.tup [.str "zero", vInt i]) = H4 at s1 c1 d4 ⊢
        refine ⟨_, rfl, dr, nu, rfl, d4, fun v5 H5 v50 v51 k5 d5 => ⟨_, rfl, _, _, rfl, rfl, by show (0 : Int) < hh; omega, ?_⟩⟩
        obtain ⟨j, hj, ej⟩ := mod_nat (v := v5) hh0
        dsimp only
        rw [ej]
        refine ⟨by show 3 ≤ sizeLine; decide, fun tb ntb => ⟨by show 2 ≤ sizeLine; decide, fun l nl => ?_⟩⟩
        have s2 := same_upd (o := .tup [.str "copy", vInt i, vInt j]) ntb
        have s3 := same_upd (o := .lst [.ref ta, .ref tb]) nl
        have c1 := (((c1.monoT (d4.tups k5) (noL_act (.zero i))).mono s2).mono s3)
        have c2 := (dv_tup (ds := [.str "copy", dInt i, dInt j]) (.cons (.str _) (.cons (.int _) (.cons (.int _) .nil))) ntb).mono s3
        have el : (upd (upd H5 tb (.tup [.str "copy", vInt i, vInt j])) l (.lst [.ref ta, .ref tb])) l = _ := upd_same
        have s5 := Same.tr s2 s3
        have k06 := (k03.trans (.of s1)).trans (k5.trans (.of s5))
        have d6 := d5.same s5
        generalize upd (upd H5 tb (.tup [.str "copy", vInt i, vInt j])) l (.lst [.ref ta, .ref tb]) = H6 at s5 el c1 c2 k06 d6 ⊢
        refine ⟨_, rfl, _, _, rfl, rfl, ?_⟩
        have : pick = 5 ∨ pick = 6 := by omega
        rcases this with rfl | rfl
        · exact ⟨l, _, (0 : Int), _, rfl, rfl, SqL.of el, rfl, q _ _ k06 d6 (.inr ⟨ta, .zero i, rfl, c1, hi⟩)⟩
        · exact ⟨l, _, (1 : Int), _, rfl, rfl, SqL.of el, rfl, q _ _ k06 d6 (.inr ⟨tb, .copy i j, rfl, c2, hi, hj⟩)⟩
end K54
set_option Elab.async false
set_option linter.all false
set_option maxRecDepth 100000
set_option maxHeartbeats 4000000
set_option pp.maxSteps 800
namespace K54
open PySem PySem.Spec PyProof.Rows L2
variable {P : Program} {w : World} {K : PySem.W.Frag} {mg : Str → Option Value} {base : Heap}
def turnC : Cond → Cond
  | .rel z is f => .rel z is (!f)
  | .eq i j f => .eq i j (!f)
  | .less i j f => .less i j (!f)
  | .last i f => .last i (!f)
theorem turn_ok {h : Nat} {c : Cond} (o : condOk h c) : condOk h (turnC c) := by
  cases c <;> exact o
def spTurned : Sp := fun vs H Q _ => ∃ (v : V) (c : Cond), vs = [v] ∧ Dv H v (condD c) ∧ ∀ H' v', Same H H' → Dv H' v' (condD (turnC c)) → Q v' H'
theorem sc_L_turned : FnScope ["_law_condition_here"] ["_law_condition_here"] (defScope s_L_turned) := ⟨rfl, rfl, rfl, by decide +kernel, rfl, by decide +kernel, by decide +kernel⟩
theorem d_L_turned (T : Txt w K mg) : Def P w K mg base CX0 1 ("_law_turned", none) ["_law_condition_here"] (spTurned) := by
  refine Def.of0 (k := 0) T.f_L_turned sc_L_turned (fun _ _ _ _ _ _ us hl => match us, hl with | [_], _ => rfl) (fun vs H Q E h => ?_) (fun cdv A outer s H vs Q E hr h => ?_)
  · obtain ⟨v, c, rfl, _⟩ := h
    rfl
  · obtain ⟨v, c, rfl, hc, q⟩ := h
    refine ⟨_, ((pss_one (ps_ret (pe_op op_catA (pe_slice sl_tupA (pv 0) po_none (po_some (pe_op op_sub (pe_b call_len_seq T.b_len (pa_cons (pv 0) pa_nil)) pe_int))) (pe_tup (pa_cons (pe_not (pe_ix ix_tup (pv 0) (pe_op op_sub (pe_b call_len_seq T.b_len (pa_cons (pv 0) pa_nil)) pe_int) (fun _ _ => rfl))) pa_nil)))))), ?_⟩
    have fin : ∀ {a : Addr} {xs : List V} {ys : List PyData} {f : Bool} {ds : List PyData} , H a = some (.tup (xs ++ [.bl f])) → DvAll H xs ys → xs.length = 2 ∨ xs.length = 3 → Dv H (.ref a) (.tuple (ys ++ [.bool f])) → condD (turnC c) = .tuple (ys ++ [.bool (!f)]) → ∀ (p t1 t2 : Addr), H p = none → (upd H p (.tup xs)) t1 = none → (upd (upd H p (.tup xs)) t1 (.tup [.bl (!f)])) t2 = none → Q (.ref t2) (upd (upd (upd H p (.tup xs)) t1 (.tup [.bl (!f)])) t2 (.tup (xs ++ [.bl (!f)]))) := fun {a xs ys f ds} e r hl hd ht p t1 t2 n1 n2 n3 => by
      have s1 := same_upd (o := .tup xs) n1
      have s2 := same_upd (o := .tup [.bl (!f)]) n2
      have s3 := same_upd (o := .tup (xs ++ [.bl (!f)])) n3
      refine q _ _ (Same.tr s1 (Same.tr s2 s3)) ?_
      rw [ht]
      exact .tup upd_same (((r.mono s1).mono s2).mono s3 |>.append (.cons (.bl _) .nil))
    cases c with
    | rel z is f =>
      obtain ⟨a, b, rfl, e1, e2⟩ := cond_rel hc
      refine ⟨_, rfl, _, rfl, a, _, rfl, .inr (SqT.of e1), _, _, rfl, rfl, 3, rfl, a, _, rfl, SqT.of e1, fun z => absurd z.2 (show ¬ HT.sIx 4 4 (some 3) = 4 by decide), fun _ p np => ?_⟩
      have s1 := same_upd (o := .tup [.str "rel", .str z.s, .ref b]) np
      refine ⟨_, rfl, _, rfl, a, _, rfl, .inr (SqT.of (s1 _ _ e1)), _, _, rfl, rfl, a, _, (3 : Int), _, rfl, rfl, SqT.of (s1 _ _ e1), rfl, f, rfl, by show 1 ≤ sizeLine; decide, fun t1 nt1 => ?_⟩
      refine ⟨p, t1, [.str "rel", .str z.s, .ref b], [.bl (!f)], rfl, rfl, SqT.of (same_upd nt1 _ _ upd_same), SqT.of upd_same, by show 4 ≤ sizeLine; decide, fun z => (nomatch z), fun _ z => (nomatch z), fun _ _ t2 nt2 => ?_⟩
      exact fin (a := a) (xs := [.str "rel", .str z.s, .ref b]) (ys := [.str "rel", .str z.s, .tuple (is.map dInt)]) (ds := []) e1 (.cons (.str _) (.cons (.str _) (.cons (.tup e2 (DvAll.nats is)) .nil))) (.inr rfl) hc rfl p t1 t2 np nt1 nt2
    | eq i j f =>
      obtain ⟨a, rfl, e1⟩ := cond_two hc
      refine ⟨_, rfl, _, rfl, a, _, rfl, .inr (SqT.of e1), _, _, rfl, rfl, 3, rfl, a, _, rfl, SqT.of e1, fun z => absurd z.2 (show ¬ HT.sIx 4 4 (some 3) = 4 by decide), fun _ p np => ?_⟩
      have s1 := same_upd (o := .tup [.str "eq", vInt i, vInt j]) np
      refine ⟨_, rfl, _, rfl, a, _, rfl, .inr (SqT.of (s1 _ _ e1)), _, _, rfl, rfl, a, _, (3 : Int), _, rfl, rfl, SqT.of (s1 _ _ e1), rfl, f, rfl, by show 1 ≤ sizeLine; decide, fun t1 nt1 => ?_⟩
      refine ⟨p, t1, [.str "eq", vInt i, vInt j], [.bl (!f)], rfl, rfl, SqT.of (same_upd nt1 _ _ upd_same), SqT.of upd_same, by show 4 ≤ sizeLine; decide, fun z => (nomatch z), fun _ z => (nomatch z), fun _ _ t2 nt2 => ?_⟩
      exact fin (a := a) (xs := [.str "eq", vInt i, vInt j]) (ys := [.str "eq", dInt i, dInt j]) (ds := []) e1 (.cons (.str _) (.cons (.int _) (.cons (.int _) .nil))) (.inr rfl) hc rfl p t1 t2 np nt1 nt2
    | less i j f =>
      obtain ⟨a, rfl, e1⟩ := cond_two hc
      refine ⟨_, rfl, _, rfl, a, _, rfl, .inr (SqT.of e1), _, _, rfl, rfl, 3, rfl, a, _, rfl, SqT.of e1, fun z => absurd z.2 (show ¬ HT.sIx 4 4 (some 3) = 4 by decide), fun _ p np => ?_⟩
      have s1 := same_upd (o := .tup [.str "less", vInt i, vInt j]) np
      refine ⟨_, rfl, _, rfl, a, _, rfl, .inr (SqT.of (s1 _ _ e1)), _, _, rfl, rfl, a, _, (3 : Int), _, rfl, rfl, SqT.of (s1 _ _ e1), rfl, f, rfl, by show 1 ≤ sizeLine; decide, fun t1 nt1 => ?_⟩
      refine ⟨p, t1, [.str "less", vInt i, vInt j], [.bl (!f)], rfl, rfl, SqT.of (same_upd nt1 _ _ upd_same), SqT.of upd_same, by show 4 ≤ sizeLine; decide, fun z => (nomatch z), fun _ z => (nomatch z), fun _ _ t2 nt2 => ?_⟩
      exact fin (a := a) (xs := [.str "less", vInt i, vInt j]) (ys := [.str "less", dInt i, dInt j]) (ds := []) e1 (.cons (.str _) (.cons (.int _) (.cons (.int _) .nil))) (.inr rfl) hc rfl p t1 t2 np nt1 nt2
    | last i f =>
      obtain ⟨a, rfl, e1⟩ := cond_last hc
      refine ⟨_, rfl, _, rfl, a, _, rfl, .inr (SqT.of e1), _, _, rfl, rfl, 2, rfl, a, _, rfl, SqT.of e1, fun z => absurd z.2 (show ¬ HT.sIx 3 3 (some 2) = 3 by decide), fun _ p np => ?_⟩
      have s1 := same_upd (o := .tup [.str "last", vInt i]) np
      refine ⟨_, rfl, _, rfl, a, _, rfl, .inr (SqT.of (s1 _ _ e1)), _, _, rfl, rfl, a, _, (2 : Int), _, rfl, rfl, SqT.of (s1 _ _ e1), rfl, f, rfl, by show 1 ≤ sizeLine; decide, fun t1 nt1 => ?_⟩
      refine ⟨p, t1, [.str "last", vInt i], [.bl (!f)], rfl, rfl, SqT.of (same_upd nt1 _ _ upd_same), SqT.of upd_same, by show 3 ≤ sizeLine; decide, fun z => (nomatch z), fun _ z => (nomatch z), fun _ _ t2 nt2 => ?_⟩
      exact fin (a := a) (xs := [.str "last", vInt i]) (ys := [.str "last", dInt i]) (ds := []) e1 (.cons (.str _) (.cons (.int _) .nil)) (.inl rfl) hc rfl p t1 t2 np nt1 nt2
end K54
set_option Elab.async false
set_option linter.all false
set_option maxRecDepth 100000
set_option maxHeartbeats 4000000
set_option pp.maxSteps 800
namespace K54
open PySem PySem.Spec PyProof.Rows L2
variable {P : Program} {w : World} {K : PySem.W.Frag} {mg : Str → Option Value} {base : Heap}
def ActV (h : Nat) (H : Hp) (v : V) : Prop := v = .non ∨ ∃ a c, v = .ref a ∧ Dv H v (actD c) ∧ actOk h c
theorem ActV.mono {h : Nat} {H H' : Hp} (t : TupS H H') {v : V} (x : ActV h H v) : ActV h H' v := by
  rcases x with rfl | ⟨a, c, e, d, o⟩
  · exact .inl rfl
  · exact .inr ⟨a, c, e, d.monoT t (noL_act c), o⟩
def spRule : Sp := fun vs H Q _ => ∃ (dr nu tp cr : Addr) (q h st : Nat) (xs : List V) (cs : List Cond), vs = [.ref dr, vInt q, .ref cr, vInt h, .ref tp, vInt st] ∧ DrAt H dr nu ∧ H tp = some (.tup []) ∧ 0 < st ∧ H cr = some (.tup xs) ∧ DvAll H xs (cs.map condD) ∧
  ∀ v H' (as : List Act) q', Kx dr H H' → DrAt H' dr nu → Dv H' v (ruleD ⟨q, cs, as, q'⟩) → as.length ≤ 2 → (∀ a ∈ as, actOk h a) → q' < st → Q v H'
theorem sc_L_rule : FnScope ["_law_draws", "_law_state", "_law_conditions", "_law_heads", "_law_tapes", "_law_states", "_law_actions", "_law_k", "_law_action_here"] ["_law_draws", "_law_state", "_law_conditions", "_law_heads", "_law_tapes", "_law_states"] (defScope s_L_rule) := ⟨rfl, rfl, rfl, by decide +kernel, rfl, by decide +kernel, by decide +kernel⟩
theorem d_L_rule (T : Txt w K mg) : Def P w K mg base CX0 4 ("_law_rule", none) ["_law_draws", "_law_state", "_law_conditions", "_law_heads", "_law_tapes", "_law_states"] (spRule) := by
  refine Def.of0 (k := 3) T.f_L_rule sc_L_rule (fun _ _ _ _ _ _ us hl => match us, hl with | [_, _, _, _, _, _], _ => rfl) (fun vs H Q E h => ?_) (fun cdv A outer s H vs Q E hr h => ?_)
  · obtain ⟨dr, nu, tp, cr, qq, hh, st, xs, cs, rfl, _⟩ := h
    rfl
  · obtain ⟨dr, nu, tp, cr, qq, hh, st, xs, cs, rfl, d0, et, hst, ec, rc, q⟩ := h
    refine ⟨_, ((pss_cons (ps_setLc (i := 6) (own := [("_law_k", 7)]) (g := (gName 7)) (by rfl) sc_L_rule.nd rfl rfl (sw_true rfl rfl rfl (by decide +kernel)) (pi_range1 (by rfl) T.b_range (pa_cons (pe_op op_mod (pe_f (d_L_draw T) (hr.mono (by decide)) T.g_L_draw pass0 (pa_cons (pv 0) pa_nil)) pe_int) pa_nil)) (blkOk_by (own := [("_law_k", 7)]) (N := ["_law_draws", "_law_state", "_law_conditions", "_law_heads", "_law_tapes", "_law_states", "_law_actions", "_law_k", "_law_action_here"]) (sc := defScope s_L_rule) (by decide +kernel)) (fun _ _ _ _ _ => (pg_name (i := 7) sc_L_rule.nd rfl (Or.inl rfl) (Or.inr rfl))) (fun _ _ _ _ _ => pts_nil) (fun _ _ _ _ _ => (pe_f (d_L_action (P := P) (base := base) T) (hr.mono (by decide)) T.g_L_action pass0 (pa_cons (pv 0) (pa_cons (pv 3) (pa_cons (pv 4) pa_nil))))))
       (pss_cons (ps_set (i := 6) sc_L_rule.nd rfl (Or.inl rfl) (pe_ty call_tuple_of T.b_tuple (pa_cons (pe_lc (own := [("_law_action_here", 8)]) (g := (gName 8)) (by rfl) sc_L_rule.nd (pi_list (pv 6)) (blkOk_by (own := [("_law_action_here", 8)]) (N := ["_law_draws", "_law_state", "_law_conditions", "_law_heads", "_law_tapes", "_law_states", "_law_actions", "_law_k", "_law_action_here"]) (sc := defScope s_L_rule) (by decide +kernel)) (fun _ _ _ _ _ => (pg_name (i := 8) sc_L_rule.nd rfl (Or.inl rfl) (Or.inr rfl))) (fun _ _ _ _ _ => (pts_one (pt_cmpR op_notN (pv 8) pe_non (nomark _)))) (fun _ _ _ _ _ => (pv 8))) pa_nil)))
       (pss_one (ps_ret (pe_tup (pa_cons (pv 1) (pa_cons (pv 2) (pa_cons (pv 6) (pa_cons (pe_op op_mod (pe_f (d_L_draw T) (hr.mono (by decide)) T.g_L_draw pass0 (pa_cons (pv 0) pa_nil)) (pv 5)) pa_nil)))))))))), ?_⟩
    refine ⟨_, rfl, dr, nu, rfl, d0, fun v1 H1 v10 v11 k1 d1 => ⟨_, _, rfl, rfl, by show (0 : Int) < 3; decide, ?_⟩⟩
    obtain ⟨n, hn, en⟩ := mod_nat (v := v1) (h := 3) (by decide)
    have en : v1 % 3 = (n : Int) := en
    have t1 := d0.tups k1
    have et1 := t1 _ _ et
    refine ⟨n, by rw [← en], by omega, by omega, fun D nD => lc_range (lo := 0) (n := n) (fun i H2 => Kx dr H1 H2 ∧ DrAt H2 dr nu ∧ ∃ vs, H2 D = some (.lst vs) ∧ vs.length = i ∧ ∀ v ∈ vs, ActV hh H2 v) ⟨.of (same_upd nD), d1.same (same_upd nD), [], upd_same, rfl, fun v hv => (nomatch hv)⟩ ?_ ?_⟩
    · rintro i H2 hi ⟨k2, d2, vs, eD, lv, av⟩
      have nDd : D ≠ dr := by
        obtain ⟨a, c, e⟩ := d1.lst
        exact (ne_of_none e nD).symm
      refine ⟨rfl, _, rfl, _, rfl, _, rfl, dr, nu, tp, hh, rfl, d2, d1.tups k2 _ _ et1, fun v3 H3 k3 d3 hv3 => ?_⟩
      have t3 := d2.tups k3
      have eD3 := k3 _ _ nDd eD
      have t4 : TupS H3 (upd H3 D (.lst (vs ++ [v3]))) := tupS_upd (fun ys e => by rw [eD3] at e; cases e)
      have d4 : DrAt (upd H3 D (.lst (vs ++ [v3]))) dr nu := by
        obtain ⟨a', c', ns, g1, g2, hm⟩ := d3
        refine ⟨a', c', ns, (upd_ne nDd.symm).trans g1, (upd_ne ?_).trans g2, hm⟩
        obtain ⟨a0, c0, ns0, g01, g02, _, rfl⟩ := d1
        rw [hm.2]
        exact ne_of_none g02 nD
      refine ⟨vs, eD3, by rw [lv, sizeLine_eq]; omega, fun b o nb e => ?_, d4, vs ++ [v3], upd_same, by rw [List.length_append, lv]; rfl, fun v hv => ?_⟩
      · rw [upd_ne (ne_of_none e nD)]
        exact k3 _ _ nb (k2 _ _ nb e)
      · rcases List.mem_append.mp hv with hv | hv
        · exact (av v hv).mono (t3.trans t4)
        · rw [List.mem_singleton.mp hv]
          exact ActV.mono t4 hv3
    · rintro H2 ⟨k2, d2, vs, eD, lv, av⟩
      have nDd : D ≠ dr := by
        obtain ⟨a, c, e⟩ := d1.lst
        exact (ne_of_none e nD).symm
      refine ⟨_, rfl, D, rfl, ⟨_, SqL.of eD⟩, fun D2 nD2 => lc_list (K := K) (a := D) (xs := vs) (fun i H3 => Same H2 H3 ∧ ∃ (rs : List V) (as : List Act), H3 D2 = some (.lst rs) ∧ DvAll H3 rs (as.map actD) ∧ (∀ a ∈ as, actOk hh a) ∧ as.length ≤ i) ⟨same_upd nD2, [], [], upd_same, .nil, fun a ha => (nomatch ha), Nat.le_refl _⟩ ?_ ?_ ?_⟩
      · rintro i H3 hi ⟨s3, _⟩
        exact SqL.of (s3 _ _ eD)
      · rintro i v H3 hv ⟨s3, rs, as, eD2, ra, oka, la⟩
        have hva := (av v (List.mem_of_getElem? hv)).mono (Same.tupS s3)
        refine ⟨rfl, _, rfl, rfl, _, rfl, ?_⟩
        rcases hva with rfl | ⟨a, c, rfl, da, oa⟩
        · exact iteFb rfl ⟨s3, rs, as, eD2, ra, oka, by omega⟩
        · refine iteTb rfl ⟨_, rfl, rs, eD2, ?_, fun b o e => ?_, rs ++ [.ref a], as ++ [c], upd_same, ?_, fun x hx => ?_, by rw [List.length_append, List.length_singleton]; omega⟩
          · rw [ra.len, List.length_map, sizeLine_eq]
            have := (List.getElem?_eq_some_iff.mp hv).1
            omega
          · rw [upd_ne (ne_of_none e nD2)]
            exact s3 _ _ e
          · have tt : TupS H3 (upd H3 D2 (.lst (rs ++ [.ref a]))) := tupS_upd (fun ys e => by rw [eD2] at e; cases e)
            rw [List.map_append]
            exact (ra.monoT tt (noL_all noL_act _)).append (.cons (da.monoT tt (noL_act c)) .nil)
          · rcases List.mem_append.mp hx with hx | hx
            · exact oka x hx
            · rw [List.mem_singleton.mp hx]
              exact oa
      · rintro H3 ⟨s3, rs, as, eD2, ra, oka, la⟩
        refine ⟨D2, _, rfl, .inl ⟨SqL.of eD2, fun t nt => ?_⟩⟩
        have s4 := same_upd (o := .tup rs) nt
        have et4 : (upd H3 t (.tup rs)) t = some (.tup rs) := upd_same
        have ra4 := ra.mono s4
        generalize upd H3 t (.tup rs) = H4 at s4 et4 ra4 ⊢
        have d4 := (d2.same s3).same s4
        refine ⟨_, rfl, _, rfl, _, rfl, _, rfl, dr, nu, rfl, d4, fun v5 H5 v50 v51 k5 d5 => ⟨_, rfl, _, _, rfl, rfl, by show (0 : Int) < st; omega, ?_⟩⟩
        obtain ⟨q', hq', eq'⟩ := mod_nat (v := v5) hst
        dsimp only
        rw [eq']
        refine ⟨by show 4 ≤ sizeLine; decide, fun t6 nt6 => ?_⟩
        have s6 := same_upd (o := .tup [vInt qq, .ref cr, .ref t, vInt q']) nt6
        have t5 := d4.tups k5
        have tt : TupS H (upd H5 t6 (.tup [vInt qq, .ref cr, .ref t, vInt q'])) := t1.trans ((d1.tups k2).trans (((Same.tupS (Same.tr s3 s4)).trans t5).trans (Same.tupS s6)))
        refine q _ _ as q' (k1.trans (k2.trans ((Kx.of (Same.tr s3 s4)).trans (k5.trans (.of s6))))) (d5.same s6) (.tup (xs := [vInt qq, .ref cr, .ref t, vInt q']) upd_same (.cons (.int _) (.cons (.tup (tt _ _ ec) (rc.monoT tt (noL_all noL_cond _))) (.cons (.tup ((t5.trans (Same.tupS s6)) _ _ et4) (ra4.monoT (t5.trans (Same.tupS s6)) (noL_all noL_act _))) (.cons (.int _) .nil))))) ?_ oka hq'
        omega
def rulesL (h st : Nat) (rs : List Rule) : Prop := ∀ r ∈ rs, RuleOk h st r
def spRules : Sp := fun vs H Q _ => ∃ (dr nu tp : Addr) (h st : Nat) (pl : Bool), vs = [.ref dr, vInt h, .ref tp, vInt st, .bl pl] ∧ DrAt H dr nu ∧ H tp = some (.tup []) ∧ 2 ≤ st ∧ st ≤ 4 ∧
  ∀ v H' (rs : List Rule), Kx dr H H' → DrAt H' dr nu → Dv H' v (.tuple (rs.map ruleD)) → rs.length ≤ 9 → rulesL h st rs → Q v H'
end K54
set_option Elab.async false
set_option linter.all false
set_option maxRecDepth 100000
set_option maxHeartbeats 4000000
set_option pp.maxSteps 800
namespace K54
open PySem PySem.Spec PyProof.Rows L2
variable {P : Program} {w : World} {K : PySem.W.Frag} {mg : Str → Option Value} {base : Heap}
theorem DrAt.put {H : Hp} {dr nu l : Addr} {o : HO} (d : DrAt H dr nu) (h1 : l ≠ dr) (h2 : l ≠ nu) : DrAt (upd H l o) dr nu := by
  obtain ⟨a, c, ns, e1, e2, hm, rfl⟩ := d
  exact ⟨a, c, ns, (upd_ne h1.symm).trans e1, (upd_ne h2.symm).trans e2, hm, rfl⟩
theorem DrAt.fresh {H : Hp} {dr nu l : Addr} (d : DrAt H dr nu) (n : H l = none) : l ≠ dr ∧ l ≠ nu := by
  obtain ⟨a, c, ns, e1, e2, hm, rfl⟩ := d
  exact ⟨(ne_of_none e1 n).symm, (ne_of_none e2 n).symm⟩
def RowT (H : Hp) (v : V) (cs : List Cond) : Prop := ∃ a xs, v = .ref a ∧ H a = some (.tup xs) ∧ DvAll H xs (cs.map condD)
theorem RowT.mono {H H' : Hp} (t : TupS H H') {v : V} {cs : List Cond} (h : RowT H v cs) : RowT H' v cs :=
  let ⟨a, xs, e, e1, r⟩ := h
  ⟨a, xs, e, t _ _ e1, r.monoT t (noL_all noL_cond _)⟩
theorem states_at {st i : Nat} {x : V} (h2 : 2 ≤ st) (h : ([V.int 0] ++ rgV 2 st)[i]? = some x) : ∃ q : Nat, x = vInt q ∧ q < st ∧ q ≠ 1 := by
  cases i with
  | zero =>
    cases h
    exact ⟨0, rfl, by omega, by omega⟩
  | succ i =>
    rw [List.singleton_append, List.getElem?_cons_succ] at h
    unfold rgV at h
    rw [List.getElem?_map] at h
    have hi : i < ((st : Int) - 2).toNat := by
      refine Classical.byContradiction fun hn => ?_
      rw [List.getElem?_eq_none (by rw [List.length_range]; omega)] at h
      cases h
    rw [List.getElem?_range hi] at h
    cases h
    refine ⟨2 + i, ?_, by omega, by omega⟩
    show V.int (2 + (i : Int)) = V.int ((2 + i : Nat) : Int)
    congr 1
theorem sc_L_rules : FnScope ["_law_draws", "_law_heads", "_law_tapes", "_law_states", "_law_plain", "_law_rules_here", "_law_state", "_law_first_here", "_law_second", "_law_rows", "_law_row"] ["_law_draws", "_law_heads", "_law_tapes", "_law_states", "_law_plain"] (defScope s_L_rules) := ⟨rfl, rfl, rfl, by decide +kernel, rfl, by decide +kernel, by decide +kernel⟩
theorem d_L_rules (T : Txt w K mg) : Def P w K mg base CX0 5 ("_law_rules", none) ["_law_draws", "_law_heads", "_law_tapes", "_law_states", "_law_plain"] (spRules) := by
  refine Def.of0 (k := 4) T.f_L_rules sc_L_rules (fun _ _ _ _ _ _ us hl => match us, hl with | [_, _, _, _, _], _ => rfl) (fun vs H Q E h => ?_) (fun cdv A outer s H vs Q E hr h => ?_)
  · obtain ⟨dr, nu, tp, hh, st, pl, rfl, _⟩ := h
    rfl
  · obtain ⟨dr, nu, tp, hh, st, pl, rfl, d0, et, hst2, hst4, q⟩ := h
    refine ⟨_, ((pss_cons (ps_set (i := 5) sc_L_rules.nd rfl (Or.inl rfl) (pe_lst pa_nil))
       (pss_cons (ps_for PassesOwn.never rfl (pi_list (pe_op op_cat (pe_lst (pa_cons pe_int pa_nil)) (pe_listRg rfl (by rfl) T.b_list (prg_2 (by rfl) T.b_range pe_int (pv 3))))) (pg_name (i := 6) sc_L_rules.nd rfl (Or.inl rfl))
       (pss_cons (ps_set (i := 7) sc_L_rules.nd rfl (Or.inl rfl) (pe_f (d_L_condition T) (hr.mono (by decide)) T.g_L_condition pass0 (pa_cons (pv 0) (pa_cons (pv 1) (pa_cons (pv 2) pa_nil)))))
       (pss_cons (ps_set (i := 8) sc_L_rules.nd rfl (Or.inl rfl) (pe_f (d_L_condition T) (hr.mono (by decide)) T.g_L_condition pass0 (pa_cons (pv 0) (pa_cons (pv 1) (pa_cons (pv 2) pa_nil)))))
       (pss_cons (ps_set (i := 9) sc_L_rules.nd rfl (Or.inl rfl) (pe_lst (pa_cons (pe_tup (pa_cons (pv 7) (pa_cons (pv 8) pa_nil))) (pa_cons (pe_tup (pa_cons (pv 7) (pa_cons (pe_f (d_L_turned T) (hr.mono (by decide)) T.g_L_turned pass0 (pa_cons (pv 8) pa_nil)) pa_nil))) (pa_cons (pe_tup (pa_cons (pe_f (d_L_turned T) (hr.mono (by decide)) T.g_L_turned pass0 (pa_cons (pv 7) pa_nil)) pa_nil)) pa_nil)))))
       (pss_cons (ps_if (pt_not (pt_val (pv 4)))
       (pss_one (ps_set (i := 9) sc_L_rules.nd rfl (Or.inl rfl) (pe_lst (pa_cons (pe_tup (pa_cons (pv 7) pa_nil)) (pa_cons (pe_tup (pa_cons (pv 8) pa_nil)) (pa_cons (pe_tup pa_nil) pa_nil))))))
       pss_nil)
       (pss_one (ps_for PassesOwn.never rfl (pi_list (pv 9)) (pg_name (i := 10) sc_L_rules.nd rfl (Or.inl rfl))
       (pss_one (ps_if (pt_cmpR op_gt (pe_op op_mod (pe_f (d_L_draw T) (hr.mono (by decide)) T.g_L_draw pass0 (pa_cons (pv 0) pa_nil)) pe_int) pe_int (nomark _))
       (pss_one (ps_expr (pe_bm PySem.F.plainAttrs_list PySem.F.slot_list_append PySem.F.type_list_append mt_append (pv 5) (pa_cons (pe_f (d_L_rule T) (hr.mono (by decide)) T.g_L_rule pass0 (pa_cons (pv 0) (pa_cons (pv 6) (pa_cons (pv 10) (pa_cons (pv 1) (pa_cons (pv 2) (pa_cons (pv 3) pa_nil))))))) pa_nil))))
       pss_nil)))))))))
       (pss_one (ps_ret (pe_ty call_tuple_of T.b_tuple (pa_cons (pv 5) pa_nil))))))), ?_⟩
    refine ⟨Nat.zero_le _, fun l nl => ?_⟩
    have sl0 := same_upd (o := .lst []) nl
    have el1 : (upd H l (.lst [])) l = some (.lst []) := upd_same
    have d1 := d0.same sl0
    have nl0 := nl
    obtain ⟨nld, nlnu⟩ := d0.fresh nl
    generalize upd H l (.lst []) = H1 at sl0 el1 d1 ⊢
    refine ⟨by show 1 ≤ sizeLine; decide, fun z0 nz0 => ⟨_, rfl, _, _, rfl, rfl, .of_le (by decide) (by omega) (by decide) (by omega), fun z1 nz1 => ?_⟩⟩
    have sz := Same.tr (same_upd (o := .lst [.int 0]) nz0) (same_upd (o := .lst (rgV 2 st)) nz1)
    have ez0 := same_upd (o := .lst (rgV 2 st)) nz1 _ _ (upd_same (H := H1) (a := z0) (o := .lst [.int 0]))
    have ez1 : (upd (upd H1 z0 (.lst [.int 0])) z1 (.lst (rgV 2 st))) z1 = _ := upd_same
    have d2 := d1.same sz
    have el2 := sz _ _ el1
    generalize upd (upd H1 z0 (.lst [.int 0])) z1 (.lst (rgV 2 st)) = H2 at sz ez0 ez1 d2 el2 ⊢
    have lrg : (rgV 2 st).length = st - 2 := by
      rw [rgV_length]
      omega
    refine ⟨z0, z1, _, _, rfl, rfl, ez0, ez1, by rw [lrg, sizeLine_eq]; show 1 + (st - 2) ≤ _; omega, fun sl nsl0 => ?_⟩
    have ss := same_upd (o := .lst ([.int 0] ++ rgV 2 st)) nsl0
    have esl3 : (upd H2 sl (.lst ([.int 0] ++ rgV 2 st))) sl = _ := upd_same
    have d3 := d2.same ss
    have el3 := ss _ _ el2
    obtain ⟨nsld, nslnu⟩ := d2.fresh nsl0
    have nsll : sl ≠ l := (ne_of_none el2 nsl0).symm
    generalize hxs : ([V.int 0] ++ rgV 2 st) = xs at ss esl3 d3 el3 ⊢
    have lxs : xs.length ≤ 3 := by
      rw [← hxs, List.length_append, lrg]
      show 1 + (st - 2) ≤ 3
      omega
    generalize upd H2 sl (.lst xs) = H3 at ss esl3 d3 el3 ⊢
    have s03 : Same H H3 := Same.tr sl0 (Same.tr sz ss)
    refine ⟨sl, rfl, ⟨_, SqL.of esl3⟩, for_list (K := K) (a := sl) (xs := xs) (fun i σ H' => Kx dr H H' ∧ DrAt H' dr nu ∧ H' tp = some (.tup []) ∧ H' sl = some (.lst xs) ∧ (∃ (rsv : List V) (rs : List Rule), H' l = some (.lst rsv) ∧ DvAll H' rsv (rs.map ruleD) ∧ rs.length ≤ 3 * i ∧ rulesL hh st rs) ∧
      ∃ a b c d e, σ = [some (.ref dr), some (vInt hh), some (.ref tp), some (vInt st), some (.bl pl), some (.ref l), a, b, c, d, e]) ⟨.of s03, d3, s03 _ _ et, esl3, ⟨[], [], el3, .nil, Nat.zero_le _, fun r hr => (nomatch hr)⟩, _, _, _, _, _, rfl⟩ ?_ ?_ ?_⟩
    · rintro i σ H' hi ⟨_, _, _, esl', _⟩
      exact SqL.of esl'
    · rintro i x σ H4 hx ⟨k4, dd4, etp4, esl4, ⟨rsv, rs, el4, rv4, lrs, ok5⟩, a, b, c, d, e, rfl⟩
      have hi3 : i < 3 := Nat.lt_of_lt_of_le (List.getElem?_eq_some_iff.mp hx).1 lxs
      rw [← hxs] at hx
      obtain ⟨qn, rfl, hq1, hq2⟩ := states_at hst2 hx
      refine ⟨_, rfl, _, rfl, _, rfl, dr, nu, tp, hh, rfl, dd4, etp4, fun vc1 H5 c1 k5 d5 hc1 oc1 => ?_⟩
      have t5 := dd4.tups k5
      refine ⟨_, rfl, _, rfl, _, rfl, dr, nu, tp, hh, rfl, d5, t5 _ _ etp4, fun vc2 H6 c2 k6 d6 hc2 oc2 => ?_⟩
      have t6 := d5.tups k6
      have hc1 := hc1.monoT t6 (noL_cond c1)
      refine ⟨_, rfl, _, rfl, by show 2 ≤ sizeLine; decide, fun ta nta => ?_⟩
      have sa := same_upd (o := .tup [vc1, vc2]) nta
      have ea : RowT (upd H6 ta (.tup [vc1, vc2])) (.ref ta) [c1, c2] := ⟨ta, _, rfl, upd_same, .cons (hc1.mono sa) (.cons (hc2.mono sa) .nil)⟩
      have hc1a := hc1.mono sa
      have hc2a := hc2.mono sa
      generalize upd H6 ta (.tup [vc1, vc2]) = Ha at sa ea hc1a hc2a ⊢
      refine ⟨_, rfl, _, rfl, vc2, c2, rfl, hc2a, fun Hb vt2 sb ht2 => ⟨by show 2 ≤ sizeLine; decide, fun tb ntb => ?_⟩⟩
      have sb1 := same_upd (o := .tup [vc1, vt2]) ntb
      have sab := Same.tr sb sb1
      have eb : RowT (upd Hb tb (.tup [vc1, vt2])) (.ref tb) [c1, turnC c2] := ⟨tb, _, rfl, upd_same, .cons (hc1a.mono sab) (.cons (ht2.mono sb1) .nil)⟩
      have ea := ea.mono (Same.tupS sab)
      have hc1b := hc1a.mono sab
      have hc2b := hc2a.mono sab
      generalize upd Hb tb (.tup [vc1, vt2]) = Hb1 at sb1 sab eb ea hc1b hc2b ⊢
      refine ⟨_, rfl, vc1, c1, rfl, hc1b, fun Hc vt1 sc ht1 => ⟨by show 1 ≤ sizeLine; decide, fun tc ntc => ⟨by show 3 ≤ sizeLine; decide, fun rl nrl => ?_⟩⟩⟩
      have sc1 := same_upd (o := .tup [vt1]) ntc
      have sc2 := same_upd (o := .lst [.ref ta, .ref tb, .ref tc]) nrl
      have ec : RowT (upd (upd Hc tc (.tup [vt1])) rl (.lst [.ref ta, .ref tb, .ref tc])) (.ref tc) [turnC c1] := ⟨tc, _, rfl, sc2 _ _ upd_same, .cons ((ht1.mono sc1).mono sc2) .nil⟩
      have sbc := Same.tr sc (Same.tr sc1 sc2)
      have ea := ea.mono (Same.tupS sbc)
      have eb := eb.mono (Same.tupS sbc)
      have hc1c := hc1b.mono sbc
      have hc2c := hc2b.mono sbc
      have erl : (upd (upd Hc tc (.tup [vt1])) rl (.lst [.ref ta, .ref tb, .ref tc])) rl = some (.lst [.ref ta, .ref tb, .ref tc]) := upd_same
      have s6d := Same.tr sa (Same.tr sab sbc)
      have nrl6 : H6 rl = none := by
        cases hr : H6 rl with
        | none => rfl
        | some o => rw [sc1 _ _ (sc _ _ (sab _ _ (sa _ _ hr)))] at nrl; cases nrl
      generalize upd (upd Hc tc (.tup [vt1])) rl (.lst [.ref ta, .ref tb, .ref tc]) = H7 at ea eb ec hc1c hc2c erl s6d ⊢
      have t47 : TupS H4 H7 := t5.trans (t6.trans (Same.tupS s6d))
      have k47 : Kx dr H4 H7 := k5.trans (k6.trans (.of s6d))
      have dd7 := d6.same s6d
      have esl7 := k47 _ _ nsld esl4
      have el7 := k47 _ _ nld el4
      have rv7 := rv4.monoT t47 (noL_all noL_rule _)
      have etp7 := t47 _ _ etp4
      have nrl_of : ∀ {r : Addr}, H6 r = none → r ≠ dr ∧ r ≠ l ∧ r ≠ nu := fun {r} hn => ⟨(d6.fresh hn).1, (ne_of_none (k6 _ _ nld (k5 _ _ nld el4)) hn).symm, (d6.fresh hn).2⟩
      refine ⟨_, rfl, _, rfl, ?_⟩
      refine iteB (fun _ => ?_) (fun _ => ?_)
      · refine ⟨_, rfl, by show 1 ≤ sizeLine; decide, fun ta2 nta2 => ⟨_, rfl, by show 1 ≤ sizeLine; decide, fun tb2 ntb2 => ⟨Nat.zero_le _, fun tc2 ntc2 => ⟨by show 3 ≤ sizeLine; decide, fun rl2 nrl2 => ?_⟩⟩⟩⟩
        have sx1 := same_upd (o := .tup [vc1]) nta2
        have sx2 := same_upd (o := .tup [vc2]) ntb2
        have sx3 := same_upd (o := .tup []) ntc2
        have sx4 := same_upd (o := .lst [.ref ta2, .ref tb2, .ref tc2]) nrl2
        have s79 := Same.tr sx1 (Same.tr sx2 (Same.tr sx3 sx4))
        have ea2 : RowT (upd (upd (upd (upd H7 ta2 (.tup [vc1])) tb2 (.tup [vc2])) tc2 (.tup [])) rl2 (.lst [.ref ta2, .ref tb2, .ref tc2])) (.ref ta2) [c1] := ⟨ta2, _, rfl, sx4 _ _ (sx3 _ _ (sx2 _ _ upd_same)), .cons (hc1c.mono s79) .nil⟩
        have eb2 : RowT (upd (upd (upd (upd H7 ta2 (.tup [vc1])) tb2 (.tup [vc2])) tc2 (.tup [])) rl2 (.lst [.ref ta2, .ref tb2, .ref tc2])) (.ref tb2) [c2] := ⟨tb2, _, rfl, sx4 _ _ (sx3 _ _ upd_same), .cons (hc2c.mono s79) .nil⟩
        have ec2 : RowT (upd (upd (upd (upd H7 ta2 (.tup [vc1])) tb2 (.tup [vc2])) tc2 (.tup [])) rl2 (.lst [.ref ta2, .ref tb2, .ref tc2])) (.ref tc2) [] := ⟨tc2, _, rfl, sx4 _ _ upd_same, .nil⟩
        have erl2 : (upd (upd (upd (upd H7 ta2 (.tup [vc1])) tb2 (.tup [vc2])) tc2 (.tup [])) rl2 (.lst [.ref ta2, .ref tb2, .ref tc2])) rl2 = some (.lst [.ref ta2, .ref tb2, .ref tc2]) := upd_same
        have nrl7 : H7 rl2 = none := by
          cases hr : H7 rl2 with
          | none => rfl
          | some o => rw [sx3 _ _ (sx2 _ _ (sx1 _ _ hr))] at nrl2; cases nrl2
        generalize upd (upd (upd (upd H7 ta2 (.tup [vc1])) tb2 (.tup [vc2])) tc2 (.tup [])) rl2 (.lst [.ref ta2, .ref tb2, .ref tc2]) = H9 at s79 ea2 eb2 ec2 erl2 ⊢
        obtain ⟨nrld, nrll, _⟩ : rl2 ≠ dr ∧ rl2 ≠ l ∧ rl2 ≠ nu := ⟨(dd7.fresh nrl7).1, (ne_of_none el7 nrl7).symm, (dd7.fresh nrl7).2⟩
        clear nrl erl
        have erl := erl2
        have kx5 : Kx dr H H9 := k4.trans (k47.trans (.of s79))
        have dd5 := dd7.same s79
        have etp5 := s79 _ _ etp7
        have esl5 := s79 _ _ esl7
        have el5 := s79 _ _ el7
        have rv5 := rv7.mono s79
        have hrow : Paired (RowT H9) [V.ref ta2, .ref tb2, .ref tc2] [[c1], [c2], []] := .cons ea2 (.cons eb2 (.cons ec2 .nil))
        have lcss : ([[c1], [c2], []] : List (List Cond)).length = 3 := rfl
        have hcss : ∀ cs ∈ ([[c1], [c2], []] : List (List Cond)), cs.length ≤ 2 ∧ ∀ c ∈ cs, condOk hh c := fun cs hcs => by
          simp only [List.mem_cons, List.not_mem_nil, or_false] at hcs
          rcases hcs with rfl | rfl | rfl
          · exact ⟨by show 1 ≤ 2; decide, fun c hc => by rw [List.mem_singleton.mp hc]; exact oc1⟩
          · exact ⟨by show 1 ≤ 2; decide, fun c hc => by rw [List.mem_singleton.mp hc]; exact oc2⟩
          · exact ⟨by decide, fun c hc => (nomatch hc)⟩
        generalize [V.ref ta2, .ref tb2, .ref tc2] = vs at erl hrow erl2
        generalize ([[c1], [c2], []] : List (List Cond)) = css at hrow lcss hcss
        generalize hrl : rl2 = rl at *
        refine ⟨_, rfl, rl, rfl, ⟨_, SqL.of erl⟩, for_list (K := K) (a := rl) (xs := vs) (fun j σ H7 => Kx dr H H7 ∧ DrAt H7 dr nu ∧ H7 tp = some (.tup []) ∧ H7 sl = some (.lst xs) ∧ H7 rl = some (.lst vs) ∧ Paired (RowT H7) vs css ∧ (∃ (rsv : List V) (rs : List Rule), H7 l = some (.lst rsv) ∧ DvAll H7 rsv (rs.map ruleD) ∧ rs.length ≤ 3 * i + j ∧ rulesL hh st rs) ∧
          ∃ w10, σ = [some (.ref dr), some (vInt hh), some (.ref tp), some (vInt st), some (.bl pl), some (.ref l), some (vInt qn), some vc1, some vc2, some (.ref rl), w10]) ⟨kx5, dd5, etp5, esl5, erl, hrow, ⟨rsv, rs, el5, rv5, by omega, ok5⟩, _, rfl⟩ ?_ ?_ ?_⟩
        · rintro j σ H7 hj ⟨_, _, _, _, erl7, _⟩
          exact SqL.of erl7
        · rintro j y σ H7 hy ⟨k7, d7, etp7, esl7, erl7, hrow7, ⟨rsv7, rs7, el7, rv7, lr7, ok7⟩, w10, rfl⟩
          obtain ⟨cs, hcs, ra, rxs, rfl, era, rra⟩ := paired_get hrow7 hy
          have hcsm := hcss cs (List.mem_of_getElem? hcs)
          have hj3 : j < 3 := by
            have := (List.getElem?_eq_some_iff.mp hy).1
            rw [paired_len hrow7, lcss] at this
            exact this
          have nld7 : l ≠ dr := nld
          refine ⟨_, rfl, dr, nu, rfl, d7, fun v8 H8 v80 v81 k8 d8 => ⟨_, _, rfl, rfl, by show (0 : Int) < 6; decide, _, _, rfl, rfl, _, rfl, ?_⟩⟩
          have t8 := d7.tups k8
          have nsl : sl ≠ dr := nsld
          have nrl : rl ≠ dr := nrld
          have esl8 := k8 _ _ nsl esl7
          have erl8 := k8 _ _ nrl erl7
          have el8 := k8 _ _ nld7 el7
          have hrow8 : Paired (RowT H8) vs css := Paired.mapP hrow7 fun _ _ z => z.mono t8
          have rv8 := rv7.monoT t8 (noL_all noL_rule _)
          refine iteB (fun _ => ?_) (fun _ => ?_)
          · refine ⟨_, rfl, .inl ⟨rfl, _, SqL.of el8⟩, _, rfl, _, rfl, _, rfl, _, rfl, _, rfl, _, rfl, dr, nu, tp, ra, qn, hh, st, rxs, cs, rfl, d8, t8 _ _ etp7, by omega, t8 _ _ era, rra.monoT t8 (noL_all noL_cond _), fun v9 H9 as q' k9 d9 hv9 las oas hq' => ?_⟩
            have t9 := d8.tups k9
            have el9 := k9 _ _ nld7 el8
            have esl9 := k9 _ _ nsl esl8
            have erl9 := k9 _ _ nrl erl8
            have lrs : rsv7.length ≤ 9 := by
              rw [rv7.len, List.length_map]
              omega
            refine ⟨l, _, _, rfl, rfl, el9, by rw [sizeLine_eq]; omega, ?_⟩
            have t10 : TupS H9 (upd H9 l (.lst (rsv7 ++ [v9]))) := tupS_upd (fun ys e => by rw [el9] at e; cases e)
            refine ⟨fun b o nb e => (upd_ne (ne_of_none e nl0)).trans (k9 _ _ nb (k8 _ _ nb (k7 _ _ nb e))), d9.put nld7 nlnu, t10 _ _ (t9 _ _ (t8 _ _ etp7)), (upd_ne nsll).trans esl9, (upd_ne nrll).trans erl9, Paired.mapP hrow8 fun _ _ z => z.mono (t9.trans t10), ⟨rsv7 ++ [v9], rs7 ++ [⟨qn, cs, as, q'⟩], upd_same, ?_, by rw [List.length_append, List.length_singleton]; omega, fun r hr => ?_⟩, _, rfl⟩
            · rw [List.map_append]
              exact (rv8.monoT (t9.trans t10) (noL_all noL_rule _)).append (.cons (hv9.monoT t10 (noL_rule _)) .nil)
            · rcases List.mem_append.mp hr with hr | hr
              · exact ok7 r hr
              · rw [List.mem_singleton.mp hr]
                exact ⟨hq1, hq2, hq', by have := hcsm.1; show cs.length ≤ 12; omega, by show as.length ≤ 12; omega, hcsm.2, oas⟩
          · exact ⟨k7.trans k8, d8, t8 _ _ etp7, esl8, erl8, hrow8, ⟨rsv7, rs7, el8, rv8, by omega, ok7⟩, _, rfl⟩
        · rintro σ H7 ⟨k7, d7, etp7, esl7, erl7, hrow7, ⟨rsv7, rs7, el7, rv7, lr7, ok7⟩, w10, rfl⟩
          rw [paired_len hrow7, lcss] at lr7
          exact ⟨k7, d7, etp7, esl7, ⟨rsv7, rs7, el7, rv7, by omega, ok7⟩, _, _, _, _, _, rfl⟩
      · obtain ⟨nrld, nrll, _⟩ := nrl_of nrl6
        have kx5 : Kx dr H H7 := k4.trans k47
        have dd5 := dd7
        have etp5 := etp7
        have esl5 := esl7
        have el5 := el7
        have rv5 := rv7
        have hrow : Paired (RowT H7) [V.ref ta, .ref tb, .ref tc] [[c1, c2], [c1, turnC c2], [turnC c1]] := .cons ea (.cons eb (.cons ec .nil))
        have lcss : ([[c1, c2], [c1, turnC c2], [turnC c1]] : List (List Cond)).length = 3 := rfl
        have hcss : ∀ cs ∈ ([[c1, c2], [c1, turnC c2], [turnC c1]] : List (List Cond)), cs.length ≤ 2 ∧ ∀ c ∈ cs, condOk hh c := fun cs hcs => by
          simp only [List.mem_cons, List.not_mem_nil, or_false] at hcs
          rcases hcs with rfl | rfl | rfl
          · refine ⟨by show 2 ≤ 2; decide, fun c hc => ?_⟩
            simp only [List.mem_cons, List.not_mem_nil, or_false] at hc
            rcases hc with rfl | rfl <;> assumption
          · refine ⟨by show 2 ≤ 2; decide, fun c hc => ?_⟩
            simp only [List.mem_cons, List.not_mem_nil, or_false] at hc
            rcases hc with rfl | rfl
            · exact oc1
            · exact turn_ok oc2
          · refine ⟨by show 1 ≤ 2; decide, fun c hc => ?_⟩
            rw [List.mem_singleton.mp hc]
            exact turn_ok oc1
        generalize [V.ref ta, .ref tb, .ref tc] = vs at erl hrow
        generalize ([[c1, c2], [c1, turnC c2], [turnC c1]] : List (List Cond)) = css at hrow lcss hcss
        refine ⟨_, rfl, rl, rfl, ⟨_, SqL.of erl⟩, for_list (K := K) (a := rl) (xs := vs) (fun j σ H7 => Kx dr H H7 ∧ DrAt H7 dr nu ∧ H7 tp = some (.tup []) ∧ H7 sl = some (.lst xs) ∧ H7 rl = some (.lst vs) ∧ Paired (RowT H7) vs css ∧ (∃ (rsv : List V) (rs : List Rule), H7 l = some (.lst rsv) ∧ DvAll H7 rsv (rs.map ruleD) ∧ rs.length ≤ 3 * i + j ∧ rulesL hh st rs) ∧
          ∃ w10, σ = [some (.ref dr), some (vInt hh), some (.ref tp), some (vInt st), some (.bl pl), some (.ref l), some (vInt qn), some vc1, some vc2, some (.ref rl), w10]) ⟨kx5, dd5, etp5, esl5, erl, hrow, ⟨rsv, rs, el5, rv5, by omega, ok5⟩, _, rfl⟩ ?_ ?_ ?_⟩
        · rintro j σ H7 hj ⟨_, _, _, _, erl7, _⟩
          exact SqL.of erl7
        · rintro j y σ H7 hy ⟨k7, d7, etp7, esl7, erl7, hrow7, ⟨rsv7, rs7, el7, rv7, lr7, ok7⟩, w10, rfl⟩
          obtain ⟨cs, hcs, ra, rxs, rfl, era, rra⟩ := paired_get hrow7 hy
          have hcsm := hcss cs (List.mem_of_getElem? hcs)
          have hj3 : j < 3 := by
            have := (List.getElem?_eq_some_iff.mp hy).1
            rw [paired_len hrow7, lcss] at this
            exact this
          have nld7 : l ≠ dr := nld
          refine ⟨_, rfl, dr, nu, rfl, d7, fun v8 H8 v80 v81 k8 d8 => ⟨_, _, rfl, rfl, by show (0 : Int) < 6; decide, _, _, rfl, rfl, _, rfl, ?_⟩⟩
          have t8 := d7.tups k8
          have nsl : sl ≠ dr := nsld
          have nrl : rl ≠ dr := nrld
          have esl8 := k8 _ _ nsl esl7
          have erl8 := k8 _ _ nrl erl7
          have el8 := k8 _ _ nld7 el7
          have hrow8 : Paired (RowT H8) vs css := Paired.mapP hrow7 fun _ _ z => z.mono t8
          have rv8 := rv7.monoT t8 (noL_all noL_rule _)
          refine iteB (fun _ => ?_) (fun _ => ?_)
          · refine ⟨_, rfl, .inl ⟨rfl, _, SqL.of el8⟩, _, rfl, _, rfl, _, rfl, _, rfl, _, rfl, _, rfl, dr, nu, tp, ra, qn, hh, st, rxs, cs, rfl, d8, t8 _ _ etp7, by omega, t8 _ _ era, rra.monoT t8 (noL_all noL_cond _), fun v9 H9 as q' k9 d9 hv9 las oas hq' => ?_⟩
            have t9 := d8.tups k9
            have el9 := k9 _ _ nld7 el8
            have esl9 := k9 _ _ nsl esl8
            have erl9 := k9 _ _ nrl erl8
            have lrs : rsv7.length ≤ 9 := by
              rw [rv7.len, List.length_map]
              omega
            refine ⟨l, _, _, rfl, rfl, el9, by rw [sizeLine_eq]; omega, ?_⟩
            have t10 : TupS H9 (upd H9 l (.lst (rsv7 ++ [v9]))) := tupS_upd (fun ys e => by rw [el9] at e; cases e)
            refine ⟨fun b o nb e => (upd_ne (ne_of_none e nl0)).trans (k9 _ _ nb (k8 _ _ nb (k7 _ _ nb e))), d9.put nld7 nlnu, t10 _ _ (t9 _ _ (t8 _ _ etp7)), (upd_ne nsll).trans esl9, (upd_ne nrll).trans erl9, Paired.mapP hrow8 fun _ _ z => z.mono (t9.trans t10), ⟨rsv7 ++ [v9], rs7 ++ [⟨qn, cs, as, q'⟩], upd_same, ?_, by rw [List.length_append, List.length_singleton]; omega, fun r hr => ?_⟩, _, rfl⟩
            · rw [List.map_append]
              exact (rv8.monoT (t9.trans t10) (noL_all noL_rule _)).append (.cons (hv9.monoT t10 (noL_rule _)) .nil)
            · rcases List.mem_append.mp hr with hr | hr
              · exact ok7 r hr
              · rw [List.mem_singleton.mp hr]
                exact ⟨hq1, hq2, hq', by have := hcsm.1; show cs.length ≤ 12; omega, by show as.length ≤ 12; omega, hcsm.2, oas⟩
          · exact ⟨k7.trans k8, d8, t8 _ _ etp7, esl8, erl8, hrow8, ⟨rsv7, rs7, el8, rv8, by omega, ok7⟩, _, rfl⟩
        · rintro σ H7 ⟨k7, d7, etp7, esl7, erl7, hrow7, ⟨rsv7, rs7, el7, rv7, lr7, ok7⟩, w10, rfl⟩
          rw [paired_len hrow7, lcss] at lr7
          exact ⟨k7, d7, etp7, esl7, ⟨rsv7, rs7, el7, rv7, by omega, ok7⟩, _, _, _, _, _, rfl⟩
    · rintro σ H4 ⟨k4, dd4, etp4, esl4, ⟨rsv, rs, el4, rv4, lrs, ok5⟩, a, b, c, d, e, rfl⟩
      refine ⟨_, rfl, l, _, rfl, .inl ⟨SqL.of el4, fun t nt => ?_⟩⟩
      have s5 := same_upd (o := .tup rsv) nt
      exact q _ _ rs (k4.trans (.of s5)) (dd4.same s5) (.tup upd_same (rv4.mono s5)) (by omega) ok5
end K54
set_option Elab.async false
set_option linter.all false
set_option maxRecDepth 100000
set_option maxHeartbeats 4000000
set_option pp.maxSteps 800
namespace K54
open PySem PySem.Spec PyProof.Rows L2
variable {P : Program} {w : World} {K : PySem.W.Frag} {mg : Str → Option Value} {base : Heap}
def spMachine : Sp := fun vs H Q _ => ∃ (dr nu tp : Addr) (st : Nat) (pl : Bool), vs = [.ref dr, .int 2, .ref tp, vInt st, .bl pl] ∧ DrAt H dr nu ∧ H tp = some (.tup []) ∧ 2 ≤ st ∧ st ≤ 4 ∧
  ∀ v H' (m : Mach), Kx dr H H' → DrAt H' dr nu → Dv H' v (machD m) → MachOk m → m.ts = [] → m.st ≤ 4 → m.rs.length ≤ 9 → Q v H'
theorem sc_L_machine : FnScope ["_law_draws", "_law_most", "_law_tapes", "_law_states", "_law_plain", "_law_heads"] ["_law_draws", "_law_most", "_law_tapes", "_law_states", "_law_plain"] (defScope s_L_machine) := ⟨rfl, rfl, rfl, by decide +kernel, rfl, by decide +kernel, by decide +kernel⟩
theorem d_L_machine (T : Txt w K mg) : Def P w K mg base CX0 6 ("_law_machine", none) ["_law_draws", "_law_most", "_law_tapes", "_law_states", "_law_plain"] (spMachine) := by
  refine Def.of0 (k := 5) T.f_L_machine sc_L_machine (fun _ _ _ _ _ _ us hl => match us, hl with | [_, _, _, _, _], _ => rfl) (fun vs H Q E h => ?_) (fun cdv A outer s H vs Q E hr h => ?_)
  · obtain ⟨dr, nu, tp, st, pl, rfl, _⟩ := h
    rfl
  · obtain ⟨dr, nu, tp, st, pl, rfl, d0, et, hst2, hst4, q⟩ := h
    refine ⟨_, ((pss_cons (ps_set (i := 5) sc_L_machine.nd rfl (Or.inl rfl) (pe_op op_mod (pe_f (d_L_draw T) (hr.mono (by decide)) T.g_L_draw pass0 (pa_cons (pv 0) pa_nil)) (pe_op op_add (pv 1) pe_int)))
       (pss_one (ps_ret (pe_tup (pa_cons (pv 5) (pa_cons (pv 2) (pa_cons (pv 3) (pa_cons (pe_f (d_L_rules T) (hr.mono (by decide)) T.g_L_rules pass0 (pa_cons (pv 0) (pa_cons (pv 5) (pa_cons (pv 2) (pa_cons (pv 3) (pa_cons (pv 4) pa_nil)))))) pa_nil))))))))), ?_⟩
    refine ⟨_, rfl, dr, nu, rfl, d0, fun v1 H1 v10 v11 k1 d1 => ⟨_, rfl, _, _, rfl, rfl, _, _, rfl, rfl, by show (0 : Int) < 2 + 1; decide, ?_⟩⟩
    obtain ⟨hh, hh3, eh⟩ := mod_nat (v := v1) (h := 3) (by decide)
    have eh : v1 % (2 + 1) = (hh : Int) := eh
    dsimp only
    rw [eh]
    have t1 := d0.tups k1
    refine ⟨_, rfl, _, rfl, _, rfl, _, rfl, _, rfl, _, rfl, _, rfl, _, rfl, dr, nu, tp, hh, st, pl, rfl, d1, t1 _ _ et, hst2, hst4, fun v2 H2 rs k2 d2 hv lrs ok => ⟨by show 4 ≤ sizeLine; decide, fun t nt => ?_⟩⟩
    have t2 := d1.tups k2
    have s3 := same_upd (o := .tup [vInt hh, .ref tp, vInt st, v2]) nt
    refine q _ _ ⟨hh, [], st, rs⟩ (k1.trans (k2.trans (.of s3))) (d2.same s3) (.tup upd_same (.cons (.int _) (.cons (.tup (s3 _ _ (t2 _ _ (t1 _ _ et))) .nil) (.cons (.int _) (.cons (hv.mono s3) .nil))))) ⟨by show hh ≤ 2; omega, by show 0 ≤ 1; decide, fun t ht => (nomatch ht), hst2, by show st ≤ 20; omega, by show rs.length ≤ 1000; omega, ok⟩ rfl hst4 lrs
theorem rep_zeros (k : Nat) : (List.replicate k [V.int 0]).flatten = (zeros k).map V.int := by
  unfold zeros
  induction k with
  | zero => rfl
  | succ k ih => rw [List.replicate_succ, List.flatten_cons, ih, List.replicate_succ, List.map_cons]; rfl
def spLFirst : Sp := fun vs H Q _ => ∃ (x : V) (m : Mach), vs = [x] ∧ Dv H x (machD m) ∧ m.ts = [] ∧ m.h ≤ 2 ∧ ∀ H' v, Same H H' → KyT H' (nk (0, zeros m.h)) v → Q v H'
theorem sc_L_first : FnScope ["_law_machine_here"] ["_law_machine_here"] (defScope s_L_first) := ⟨rfl, rfl, rfl, by decide +kernel, rfl, by decide +kernel, by decide +kernel⟩
theorem d_L_first (T : Txt w K mg) : Def P w K mg base CX0 1 ("_law_first", none) ["_law_machine_here"] (spLFirst) := by
  refine Def.of0 (k := 0) T.f_L_first sc_L_first (fun _ _ _ _ _ _ us hl => match us, hl with | [_], _ => rfl) (fun vs H Q E h => ?_) (fun cdv A outer s H vs Q E hr h => ?_)
  · obtain ⟨x, m, rfl, _⟩ := h
    rfl
  · obtain ⟨x, m, rfl, hm, hts, hh2, q⟩ := h
    refine ⟨_, ((pss_one (ps_ret (pe_tup (pa_cons pe_int (pa_cons (pe_op op_repA (pe_tup (pa_cons pe_int pa_nil)) (pe_ix ix_tup (pv 0) pe_int (fun _ _ => rfl))) (pa_cons (pe_op op_repA (pe_tup (pa_cons (pe_tup pa_nil) pa_nil)) (pe_b call_len_seq T.b_len (pa_cons (pe_ix ix_tup (pv 0) pe_int (fun _ _ => rfl)) pa_nil))) pa_nil))))))), ?_⟩
    obtain ⟨a, c, dd, ys, rfl, e1, e2, e3, q3⟩ := mach_inv hm
    rw [hts] at e2
    refine ⟨by show 1 ≤ sizeLine; decide, fun t1 n1 => ?_⟩
    have s1 := same_upd (o := .tup [.int 0]) n1
    have et1 : (upd H t1 (.tup [.int 0])) t1 = some (.tup [.int 0]) := upd_same
    generalize upd H t1 (.tup [.int 0]) = H1 at s1 et1 ⊢
    have fin : ∀ (p : Addr) (H2 : Hp), Same H1 H2 → H2 p = some (.tup ((zeros m.h).map V.int)) → ∀ t2, H2 t2 = none → ∀ t3, (upd H2 t2 (.tup [])) t3 = none → ∀ t4, (upd (upd H2 t2 (.tup [])) t3 (.tup [.ref t2])) t4 = none → ∀ t5, (upd (upd (upd H2 t2 (.tup [])) t3 (.tup [.ref t2])) t4 (.tup [])) t5 = none → Q (.ref t5) (upd (upd (upd (upd H2 t2 (.tup [])) t3 (.tup [.ref t2])) t4 (.tup [])) t5 (.tup [.int 0, .ref p, .ref t4])) := fun p H2 s2 ep t2 n2 t3 n3 t4 n4 t5 n5 => by
      have sa := same_upd (o := .tup []) n2
      have sb := same_upd (o := .tup [.ref t2]) n3
      have sc := same_upd (o := .tup []) n4
      have sd := same_upd (o := .tup [.int 0, .ref p, .ref t4]) n5
      have s25 := Same.tr sa (Same.tr sb (Same.tr sc sd))
      exact q _ _ (Same.tr s1 (Same.tr s2 s25)) (cf_mk (c := (0, zeros m.h)) upd_same (s25 _ _ ep) (sd _ _ upd_same))
    have rest : ∀ (p : Addr) (H2 : Hp), Same H1 H2 → H2 p = some (.tup ((zeros m.h).map V.int)) → ∀ t2, H2 t2 = none → ∀ t3, (upd H2 t2 (.tup [])) t3 = none → True := fun _ _ _ _ _ _ _ _ => trivial
    refine ⟨_, rfl, _, _, (0 : Int), _, rfl, rfl, SqT.of (s1 _ _ e1), rfl, t1, m.h, [.int 0], rfl, rfl, SqT.of et1, by omega, by decide, fun hor => ?_, fun hne _ p np => ?_⟩
    · have h1 : m.h = 1 := by
        rcases hor with h | h
        · exact h
        · cases h
      refine ⟨Nat.zero_le _, fun t2 n2 => ⟨by show 1 ≤ sizeLine; decide, fun t3 n3 => ?_⟩⟩
      have sab := Same.tr (same_upd (o := .tup []) n2) (same_upd (o := .tup [.ref t2]) n3)
      refine ⟨_, rfl, _, _, (1 : Int), _, rfl, rfl, SqT.of (sab _ _ (s1 _ _ e1)), rfl, c, _, rfl, .inr (SqT.of (sab _ _ (s1 _ _ e2))), t3, 0, [.ref t2], rfl, rfl, SqT.of upd_same, by decide, by show 1 ≤ 1000; decide, fun hor => ?_, fun _ _ t4 n4 => ⟨by show 3 ≤ sizeLine; decide, fun t5 n5 => ?_⟩⟩
      · rcases hor with h | h <;> cases h
      · refine fin t1 H1 Same.rf ?_ t2 n2 t3 n3 t4 n4 t5 n5
        rw [h1]
        exact et1
    · have sp := same_upd (o := .tup (List.replicate m.h [V.int 0]).flatten) np
      have ep : (upd H1 p (.tup (List.replicate m.h [V.int 0]).flatten)) p = some (.tup ((zeros m.h).map V.int)) := by rw [upd_same, rep_zeros]
      generalize upd H1 p (.tup (List.replicate m.h [V.int 0]).flatten) = H2 at sp ep ⊢
      refine ⟨Nat.zero_le _, fun t2 n2 => ⟨by show 1 ≤ sizeLine; decide, fun t3 n3 => ?_⟩⟩
      have sab := Same.tr (same_upd (o := .tup []) n2) (same_upd (o := .tup [.ref t2]) n3)
      refine ⟨_, rfl, _, _, (1 : Int), _, rfl, rfl, SqT.of (sab _ _ (sp _ _ (s1 _ _ e1))), rfl, c, _, rfl, .inr (SqT.of (sab _ _ (sp _ _ (s1 _ _ e2)))), t3, 0, [.ref t2], rfl, rfl, SqT.of upd_same, by decide, by show 1 ≤ 1000; decide, fun hor => ?_, fun _ _ t4 n4 => ⟨by show 3 ≤ sizeLine; decide, fun t5 n5 => ?_⟩⟩
      · rcases hor with h | h <;> cases h
      · exact fin p H2 sp ep t2 n2 t3 n3 t4 n4 t5 n5
end K54
set_option Elab.async false
set_option linter.all false
set_option maxRecDepth 100000
set_option maxHeartbeats 4000000
set_option pp.maxSteps 800
namespace K54
open PySem PySem.Spec PyProof.Rows L2
variable {P : Program} {w : World} {K : PySem.W.Frag} {mg : Str → Option Value} {base : Heap}
def spTest (P : Program) (w : World) : Sp := fun vs H Q _ => ∃ (x mv : V) (sp rd : Addr) (h n : Nat) (rels : List Rl) (hs : List Int) (cd : Cond), vs = [x, .ref sp, mv, vInt n, .ref rd] ∧ Dv H x (condD cd) ∧ H sp = some (.tup (hs.map V.int)) ∧ LRel P w H rd rels ∧
  condOk h cd ∧ hs.length = h ∧ (∀ z is f, cd = .rel z is f → ∃ r ∈ rels, r.z = z) ∧ (rels.map Rl.z).Nodup ∧ ∀ H', Same H H' → Q (.bl (evalC n (relHas rels) hs cd)) H'
theorem sc_L_test : FnScope ["_law_condition_here", "_law_spots", "_law_marks", "_law_n", "_law_rels", "_law_kind", "_law_flag", "_law_told", "_law_i"] ["_law_condition_here", "_law_spots", "_law_marks", "_law_n", "_law_rels"] (defScope s_L_test) := ⟨rfl, rfl, rfl, by decide +kernel, rfl, by decide +kernel, by decide +kernel⟩
theorem d_L_test (T : Txt w K mg) : Def P w K mg base CX0 1 ("_law_test", none) ["_law_condition_here", "_law_spots", "_law_marks", "_law_n", "_law_rels"] (spTest P w) := by
  refine Def.of0 (k := 0) T.f_L_test sc_L_test (fun _ _ _ _ _ _ us hl => match us, hl with | [_, _, _, _, _], _ => rfl) (fun vs H Q E h => ?_) (fun cdv A outer s H vs Q E hr h => ?_)
  · obtain ⟨x, mv, sp, rd, h, n, rels, hs, cd, rfl, _⟩ := h
    rfl
  · obtain ⟨x, mv, sp, rd, h, n, rels, hs, cd, rfl, hc, hh, hrel, ok, hl, fit, nd, q⟩ := h
    refine ⟨_, ((pss_cons (ps_set (i := 5) sc_L_test.nd rfl (Or.inl rfl) (pe_ix ix_tup (pv 0) pe_int (fun _ _ => rfl)))
       (pss_cons (ps_set (i := 6) sc_L_test.nd rfl (Or.inl rfl) (pe_ix ix_tup (pv 0) (pe_op op_sub (pe_b call_len_seq T.b_len (pa_cons (pv 0) pa_nil)) pe_int) (fun _ _ => rfl)))
       (pss_cons (ps_if (pt_cmpR op_eq (pv 5) pe_str (nomark _))
       (pss_one (ps_set (i := 7) sc_L_test.nd rfl (Or.inl rfl) (pe_cmpR (op_inN hr.units) (pe_ty call_tuple_of T.b_tuple (pa_cons (pe_lc (own := [("_law_i", 8)]) (g := (gName 8)) (by rfl) sc_L_test.nd (pi_tup (pe_ix ix_tup (pv 0) pe_int (fun _ _ => rfl))) (blkOk_by (own := [("_law_i", 8)]) (N := ["_law_condition_here", "_law_spots", "_law_marks", "_law_n", "_law_rels", "_law_kind", "_law_flag", "_law_told", "_law_i"]) (sc := defScope s_L_test) (by decide +kernel)) (fun _ _ _ _ _ => (pg_name (i := 8) sc_L_test.nd rfl (Or.inl rfl) (Or.inr rfl))) (fun _ _ _ _ _ => pts_nil) (fun _ _ _ _ _ => (pe_ix (ix_tupK (K := K) rfl) (pv 1) (pv 8) (fun _ _ => rfl)))) pa_nil)) (pe_dget (hu_of hr) (pv 4) (pe_ix ix_tup (pv 0) pe_int (fun _ _ => rfl)) (fun _ _ => rfl)) rfl)))
       (pss_one (ps_if (pt_cmpR op_eq (pv 5) pe_str (nomark _))
       (pss_one (ps_set (i := 7) sc_L_test.nd rfl (Or.inl rfl) (pe_cmpR op_eq (pe_ix ix_tup (pv 1) (pe_ix ix_tup (pv 0) pe_int (fun _ _ => rfl)) (fun _ _ => rfl)) (pe_ix ix_tup (pv 1) (pe_ix ix_tup (pv 0) pe_int (fun _ _ => rfl)) (fun _ _ => rfl)) (nomark _))))
       (pss_one (ps_if (pt_cmpR op_eq (pv 5) pe_str (nomark _))
       (pss_one (ps_set (i := 7) sc_L_test.nd rfl (Or.inl rfl) (pe_cmpR op_lt (pe_ix ix_tup (pv 1) (pe_ix ix_tup (pv 0) pe_int (fun _ _ => rfl)) (fun _ _ => rfl)) (pe_ix ix_tup (pv 1) (pe_ix ix_tup (pv 0) pe_int (fun _ _ => rfl)) (fun _ _ => rfl)) (nomark _))))
       (pss_one (ps_if (pt_cmpR op_eq (pv 5) pe_str (nomark _))
       (pss_one (ps_set (i := 7) sc_L_test.nd rfl (Or.inl rfl) (pe_cmpR op_eq (pe_ix ix_tup (pv 1) (pe_ix ix_tup (pv 0) pe_int (fun _ _ => rfl)) (fun _ _ => rfl)) (pe_op op_sub (pv 3) pe_int) (nomark _))))
       (pss_one (ps_set (i := 7) sc_L_test.nd rfl (Or.inl rfl) (pe_cmpR (op_inN hr.units) (pe_ty call_tuple_of T.b_tuple (pa_cons (pe_lc (own := [("_law_i", 8)]) (g := (gName 8)) (by rfl) sc_L_test.nd (pi_tup (pe_ix ix_tup (pv 0) pe_int (fun _ _ => rfl))) (blkOk_by (own := [("_law_i", 8)]) (N := ["_law_condition_here", "_law_spots", "_law_marks", "_law_n", "_law_rels", "_law_kind", "_law_flag", "_law_told", "_law_i"]) (sc := defScope s_L_test) (by decide +kernel)) (fun _ _ _ _ _ => (pg_name (i := 8) sc_L_test.nd rfl (Or.inl rfl) (Or.inr rfl))) (fun _ _ _ _ _ => pts_nil) (fun _ _ _ _ _ => (pe_ix (ix_tupK (K := K) rfl) (pv 1) (pv 8) (fun _ _ => rfl)))) pa_nil)) (pe_ix ix_tup (pv 2) (pe_ix ix_tup (pv 0) pe_int (fun _ _ => rfl)) (fun _ _ => rfl)) rfl))))))))))
       (pss_one (ps_ret (pe_cmpR op_eq (pv 7) (pv 6) (nomark _)))))))), ?_⟩
    have ihd : ∀ {i : Nat}, i < h → (hs.map V.int)[i]? = some (.int (at' hs i)) := fun {i} hi => by
      rw [List.getElem?_map, at_some (by rw [hl]; exact hi)]
      rfl
    cases cd with
    | rel z is f =>
      obtain ⟨a, b, rfl, e1, e2⟩ := cond_rel hc
      have hlen : is.length = z.ar := ok.1
      have hz2 : z.ar ≤ 2 := by cases z <;> decide
      refine ⟨_, rfl, _, _, (0 : Int), _, rfl, rfl, SqT.of e1, rfl, ?_⟩
      refine ⟨_, rfl, _, rfl, a, _, rfl, .inr (SqT.of e1), _, _, rfl, rfl, a, _, (3 : Int), _, rfl, rfl, SqT.of e1, rfl, ?_⟩
      refine ⟨_, rfl, rfl, _, rfl, iteTb (by decide +kernel) ?_⟩
      refine ⟨_, rfl, _, _, (2 : Int), _, rfl, rfl, SqT.of e1, rfl, b, rfl, ⟨_, SqT.of e2⟩, fun D nD => lc_tup (K := K) (a := b) (xs := is.map vInt) (fun j H2 => Same H H2 ∧ H2 D = some (.lst (((is.take j).map (at' hs)).map V.int))) ⟨same_upd nD, upd_same⟩ ?_ ?_ ?_⟩
      · rintro j H2 hj ⟨s2, _⟩
        exact SqT.of (s2 _ _ e2)
      · rintro j y H2 hy ⟨s2, eD⟩
        rw [List.getElem?_map] at hy
        cases hk : is[j]? with
        | none => rw [hk] at hy; cases hy
        | some i =>
          rw [hk] at hy
          cases hy
          have hi := ok.2 i (List.mem_of_getElem? hk)
          have hjl := (List.getElem?_eq_some_iff.mp hk).1
          refine ⟨rfl, _, rfl, _, rfl, sp, _, _, _, rfl, rfl, SqT.of (s2 _ _ hh), atI_nat (ihd hi), _, eD, ?_, fun b' o e => ?_, ?_⟩
          · rw [List.length_map, List.length_map, List.length_take, sizeLine_eq]
            omega
          · rw [upd_ne (ne_of_none e nD)]
            exact s2 _ _ e
          · rw [at_take hk, List.map_append]
            exact upd_same
      rintro H2 ⟨s2, eD⟩
      rw [List.length_map, List.take_length] at eD
      refine ⟨D, _, rfl, .inl ⟨SqL.of eD, fun t nt => ?_⟩⟩
      have s3 := Same.tr s2 (same_upd (o := .tup ((is.map (at' hs)).map V.int)) nt)
      have et : (upd H2 t (.tup ((is.map (at' hs)).map V.int))) t = _ := upd_same
      generalize upd H2 t (.tup ((is.map (at' hs)).map V.int)) = H3 at s3 et ⊢
      obtain ⟨r, hrm, rfl⟩ := fit z is f rfl
      obtain ⟨kvs, ed, hk⟩ := hrel
      obtain ⟨ra, g1, g2⟩ := hk r hrm
      refine ⟨_, rfl, _, rfl, _, _, (1 : Int), _, rfl, rfl, SqT.of (s3 _ _ e1), rfl, rd, _, rfl, g1 ▸ DGet.k (k := .inr r.z.s) (s3 _ _ ed), ?_⟩
      refine ⟨ra, rowK (is.map (at' hs)), _, rfl, ⟨_, rfl⟩, .tup et (kyTs_nums _), rowK_depth _, g2.mono (Same.tupS s3) (fun o e => s3 _ _ e), ?_⟩
      refine ⟨_, rfl, _, rfl, rfl, ?_⟩
      have q := q H3 s3
      unfold evalC at q
      simp only [relHas_at nd hrm] at q
      rw [dec_bl]
      have e5 : (if false then !decide (rowK (is.map (at' hs)) ∈ r.ks.map rowK) else decide (rowK (is.map (at' hs)) ∈ r.ks.map rowK)) = decide (is.map (at' hs) ∈ r.ks) := decide_eq_decide.mpr ⟨fun hm => by
        obtain ⟨y, hy, e⟩ := List.mem_map.mp hm
        rw [← rowK_inj e]
        exact hy, fun hm => List.mem_map.mpr ⟨_, hm, rfl⟩⟩
      rw [e5]
      exact q
    | eq i j f =>
      obtain ⟨a, rfl, e1⟩ := cond_two hc
      refine ⟨_, rfl, _, _, (0 : Int), _, rfl, rfl, SqT.of e1, rfl, ?_⟩
      refine ⟨_, rfl, _, rfl, a, _, rfl, .inr (SqT.of e1), _, _, rfl, rfl, a, _, (3 : Int), _, rfl, rfl, SqT.of e1, rfl, ?_⟩
      refine ⟨_, rfl, rfl, _, rfl, iteFb (by decide +kernel) ?_⟩
      refine ⟨_, rfl, rfl, _, rfl, iteTb (by decide +kernel) ?_⟩
      refine ⟨_, rfl, _, rfl, _, _, (1 : Int), _, rfl, rfl, SqT.of e1, rfl, sp, _, _, _, rfl, rfl, SqT.of hh, atI_nat (ihd ok.1), ?_⟩
      refine ⟨_, rfl, _, rfl, _, _, (2 : Int), _, rfl, rfl, SqT.of e1, rfl, sp, _, _, _, rfl, rfl, SqT.of hh, atI_nat (ihd ok.2), rfl, ?_⟩
      refine ⟨_, rfl, _, rfl, rfl, ?_⟩
      have q := q H Same.rf
      rw [dec_bl, dec_int]
      exact q
    | less i j f =>
      obtain ⟨a, rfl, e1⟩ := cond_two hc
      refine ⟨_, rfl, _, _, (0 : Int), _, rfl, rfl, SqT.of e1, rfl, ?_⟩
      refine ⟨_, rfl, _, rfl, a, _, rfl, .inr (SqT.of e1), _, _, rfl, rfl, a, _, (3 : Int), _, rfl, rfl, SqT.of e1, rfl, ?_⟩
      refine ⟨_, rfl, rfl, _, rfl, iteFb (by decide +kernel) ?_⟩
      refine ⟨_, rfl, rfl, _, rfl, iteFb (by decide +kernel) ?_⟩
      refine ⟨_, rfl, rfl, _, rfl, iteTb (by decide +kernel) ?_⟩
      refine ⟨_, rfl, _, rfl, _, _, (1 : Int), _, rfl, rfl, SqT.of e1, rfl, sp, _, _, _, rfl, rfl, SqT.of hh, atI_nat (ihd ok.1), ?_⟩
      refine ⟨_, rfl, _, rfl, _, _, (2 : Int), _, rfl, rfl, SqT.of e1, rfl, sp, _, _, _, rfl, rfl, SqT.of hh, atI_nat (ihd ok.2), _, _, rfl, rfl, ?_⟩
      refine ⟨_, rfl, _, rfl, rfl, ?_⟩
      have q := q H Same.rf
      rw [dec_bl]
      exact q
    | last i f =>
      obtain ⟨a, rfl, e1⟩ := cond_last hc
      refine ⟨_, rfl, _, _, (0 : Int), _, rfl, rfl, SqT.of e1, rfl, ?_⟩
      refine ⟨_, rfl, _, rfl, a, _, rfl, .inr (SqT.of e1), _, _, rfl, rfl, a, _, (2 : Int), _, rfl, rfl, SqT.of e1, rfl, ?_⟩
      refine ⟨_, rfl, rfl, _, rfl, iteFb (by decide +kernel) ?_⟩
      refine ⟨_, rfl, rfl, _, rfl, iteFb (by decide +kernel) ?_⟩
      refine ⟨_, rfl, rfl, _, rfl, iteFb (by decide +kernel) ?_⟩
      refine ⟨_, rfl, rfl, _, rfl, iteTb (by decide +kernel) ?_⟩
      refine ⟨_, rfl, _, rfl, _, _, (1 : Int), _, rfl, rfl, SqT.of e1, rfl, sp, _, _, _, rfl, rfl, SqT.of hh, atI_nat (ihd ok), ?_⟩
      refine ⟨_, rfl, _, _, rfl, rfl, rfl, ?_⟩
      refine ⟨_, rfl, _, rfl, rfl, ?_⟩
      have q := q H Same.rf
      rw [dec_bl, dec_int]
      exact q
def spAllHold (P : Program) (w : World) : Sp := fun vs H Q _ => ∃ (x hv : V) (rd : Addr) (m : Mach) (n : Nat) (rels : List Rl) (c : Cf) (cs : List Cond), vs = [x, hv, vInt n, .ref rd] ∧ Dv H x (.tuple (cs.map condD)) ∧ KyT H (nk c) hv ∧ LRel P w H rd rels ∧
  (∀ cd ∈ cs, condOk m.h cd) ∧ c.2.length = m.h ∧ (∀ z is f, Cond.rel z is f ∈ cs → ∃ r ∈ rels, r.z = z) ∧ (rels.map Rl.z).Nodup ∧ ∀ H', Same H H' → Q (.bl ((cs.map (evalC n (relHas rels) c.2)).all id)) H'
theorem sc_L_all_hold : FnScope ["_law_conditions", "_law_here", "_law_n", "_law_rels", "_law_condition_here"] ["_law_conditions", "_law_here", "_law_n", "_law_rels"] (defScope s_L_all_hold) := ⟨rfl, rfl, rfl, by decide +kernel, rfl, by decide +kernel, by decide +kernel⟩
theorem d_L_all_hold (T : Txt w K mg) : Def P w K mg base CX0 2 ("_law_all_hold", none) ["_law_conditions", "_law_here", "_law_n", "_law_rels"] (spAllHold P w) := by
  refine Def.of0 (k := 1) T.f_L_all_hold sc_L_all_hold (fun _ _ _ _ _ _ us hl => match us, hl with | [_, _, _, _], _ => rfl) (fun vs H Q E h => ?_) (fun cdv A outer s H vs Q E hr h => ?_)
  · obtain ⟨x, hv, rd, m, n, rels, c, cs, rfl, _⟩ := h
    rfl
  · obtain ⟨x, hv, rd, m, n, rels, c, cs, rfl, hx, hk, hrel, ok, hl, fit, nd, q⟩ := h
    refine ⟨_, ((pss_cons (ps_for PassesOwn.never rfl (pi_tup (pv 0)) (pg_name (i := 4) sc_L_all_hold.nd rfl (Or.inl rfl))
       (pss_one (ps_if (pt_not (pt_val (pe_f (d_L_test T) (hr.mono (by decide)) T.g_L_test pass0 (pa_cons (pv 4) (pa_cons (pe_ix ix_tup (pv 1) pe_int (fun _ _ => rfl)) (pa_cons (pe_ix ix_tup (pv 1) pe_int (fun _ _ => rfl)) (pa_cons (pv 2) (pa_cons (pv 3) pa_nil))))))))
       (pss_one (ps_ret pe_bl))
       pss_nil)))
       (pss_one (ps_ret pe_bl)))), ?_⟩
    obtain ⟨b, xs, rfl, eb, rb⟩ := hx.tup_inv
    obtain ⟨a, h1, m1, rfl, ea, eh, em⟩ := cf_inv hk
    have lx : xs.length = cs.length := by rw [rb.len, List.length_map]
    refine ⟨_, rfl, b, rfl, ⟨_, SqT.of eb⟩, for_tup (K := K) (a := b) (xs := xs) (fun i σ H' => Same H H' ∧ ((cs.take i).map (evalC n (relHas rels) c.2)).all id = true ∧ ∃ v, σ = [some (.ref b), some (.ref a), some (vInt n), some (.ref rd), v]) ⟨Same.rf, rfl, _, rfl⟩ ?_ ?_ ?_⟩
    · rintro i σ H' hi ⟨s1, _⟩
      exact SqT.of (s1 _ _ eb)
    · rintro i y σ H1 hy ⟨s1, ha, v, rfl⟩
      obtain ⟨cd, hcd, rcd⟩ := rb.gets hy
      have hm := List.mem_of_getElem? hcd
      refine ⟨_, rfl, _, rfl, _, _, (1 : Int), _, rfl, rfl, SqT.of (s1 _ _ ea), rfl, _, rfl, _, _, (2 : Int), _, rfl, rfl, SqT.of (s1 _ _ ea), rfl, _, rfl, _, rfl, y, _, h1, rd, m.h, n, rels, c.2, cd, rfl, rcd.mono s1, s1 _ _ eh, hrel.mono s1, ok cd hm, hl, fun z is f e => fit z is f (e ▸ hm), nd, fun H2 s2 => ⟨_, rfl, ?_⟩⟩
      have s12 := Same.tr s1 s2
      cases hb : evalC n (relHas rels) c.2 cd with
      | true =>
        refine iteFb rfl ⟨s12, ?_, _, rfl⟩
        rw [List.take_add_one, hcd, List.map_append, List.all_append, ha]
        show (true && (evalC n (relHas rels) c.2 cd && true)) = true
        rw [hb]
        rfl
      | false =>
        refine iteTb rfl ?_
        have q := q H2 s12
        have : ((cs.map (evalC n (relHas rels) c.2)).all id) = false := by
          rw [List.all_map]
          exact all_at hcd hb
        rw [this] at q
        exact q
    · rintro σ H1 ⟨s1, ha, v, rfl⟩
      rw [lx, List.take_length] at ha
      have q := q H1 s1
      rw [ha] at q
      exact q
end K54
set_option Elab.async false
set_option linter.all false
set_option maxRecDepth 100000
set_option maxHeartbeats 4000000
set_option pp.maxSteps 800
namespace K54
open PySem PySem.Spec PyProof.Rows L2
variable {P : Program} {w : World} {K : PySem.W.Frag} {mg : Str → Option Value} {base : Heap}
def spLAct : Sp := fun vs H Q _ => ∃ (x : V) (sp mp : Addr) (n h : Nat) (hs : List Int) (as : List Act), vs = [x, .ref sp, .ref mp, vInt n] ∧ Dv H x (.tuple (as.map actD)) ∧ H sp = some (.tup (hs.map V.int)) ∧ H mp = some (.tup []) ∧ (∀ a ∈ as, actOk h a) ∧ hs.length = h ∧
  (∀ v ∈ hs, 0 ≤ v ∧ v < (n : Int)) ∧ 1 ≤ n ∧ ∀ H', Same H H' → (moves n hs as = none → Q .non H') ∧
    ∀ hs' t h2 w2, moves n hs as = some hs' → H' t = some (.tup [.ref h2, .ref w2]) → H' h2 = some (.tup (hs'.map V.int)) → H' w2 = some (.tup []) → Q (.ref t) H'
theorem sc_L_act : FnScope ["_law_actions", "_law_spots", "_law_marks", "_law_n", "_law_action_here", "_law_i", "_law_cell", "_law_rest", "_law_k", "_law_row"] ["_law_actions", "_law_spots", "_law_marks", "_law_n"] (defScope s_L_act) := ⟨rfl, rfl, rfl, by decide +kernel, rfl, by decide +kernel, by decide +kernel⟩
theorem d_L_act (T : Txt w K mg) : Def P w K mg base CX0 1 ("_law_act", none) ["_law_actions", "_law_spots", "_law_marks", "_law_n"] (spLAct) := by
  refine Def.of0 (k := 0) T.f_L_act sc_L_act (fun _ _ _ _ _ _ us hl => match us, hl with | [_, _, _, _], _ => rfl) (fun vs H Q E h => ?_) (fun cdv A outer s H vs Q E hr h => ?_)
  · obtain ⟨x, sp, mp, n, h, hs, as, rfl, _⟩ := h
    rfl
  · obtain ⟨x, sp, mp, n, h, hs, as, rfl, hx, hh, hmk0, ok, hl, hp, n1, q⟩ := h
    refine ⟨_, ((pss_cons (ps_set (i := 1) sc_L_act.nd rfl (Or.inr rfl) (pe_ty call_list_of T.b_list (pa_cons (pv 1) pa_nil)))
       (pss_cons (ps_set (i := 2) sc_L_act.nd rfl (Or.inl rfl) (pe_ty call_list_of T.b_list (pa_cons (pv 2) pa_nil)))
       (pss_cons (ps_for PassesOwn.never rfl (pi_tup (pv 0)) (pg_name (i := 4) sc_L_act.nd rfl (Or.inl rfl))
       (pss_cons (ps_set (i := 5) sc_L_act.nd rfl (Or.inl rfl) (pe_ix ix_tup (pv 4) pe_int (fun _ _ => rfl)))
       (pss_cons (ps_if (pt_cmpR op_eq (pe_ix ix_tup (pv 4) pe_int (fun _ _ => rfl)) pe_str (nomark _))
       (pss_one (ps_asg (pe_op op_add (pe_ix ix_list (pv 1) (pv 5) (fun _ _ => rfl)) pe_int) (pg_sub (pv 1) (pv 5) set_list)))
       (pss_one (ps_if (pt_cmpR op_eq (pe_ix ix_tup (pv 4) pe_int (fun _ _ => rfl)) pe_str (nomark _))
       (pss_one (ps_asg (pe_op op_sub (pe_ix ix_list (pv 1) (pv 5) (fun _ _ => rfl)) pe_int) (pg_sub (pv 1) (pv 5) set_list)))
       (pss_one (ps_if (pt_cmpR op_eq (pe_ix ix_tup (pv 4) pe_int (fun _ _ => rfl)) pe_str (nomark _))
       (pss_one (ps_asg pe_int (pg_sub (pv 1) (pv 5) set_list)))
       (pss_one (ps_if (pt_cmpR op_eq (pe_ix ix_tup (pv 4) pe_int (fun _ _ => rfl)) pe_str (nomark _))
       (pss_one (ps_asg (pe_ix ix_list (pv 1) (pe_ix ix_tup (pv 4) pe_int (fun _ _ => rfl)) (fun _ _ => rfl)) (pg_sub (pv 1) (pv 5) set_list)))
       (pss_cons (ps_set (i := 6) sc_L_act.nd rfl (Or.inr rfl) (pe_ty call_tuple_of T.b_tuple (pa_cons (pe_lc (own := [("_law_k", 8)]) (g := (gName 8)) (by rfl) sc_L_act.nd (pi_tup (pe_ix ix_tup (pv 4) pe_int (fun _ _ => rfl))) (blkOk_by (own := [("_law_k", 8)]) (N := ["_law_actions", "_law_spots", "_law_marks", "_law_n", "_law_action_here", "_law_i", "_law_cell", "_law_rest", "_law_k", "_law_row"]) (sc := defScope s_L_act) (by decide +kernel)) (fun _ _ _ _ _ => (pg_name (i := 8) sc_L_act.nd rfl (Or.inl rfl) (Or.inr rfl))) (fun _ _ _ _ _ => pts_nil) (fun _ _ _ _ _ => (pe_ix (ix_listK (K := K) rfl) (pv 1) (pv 8) (fun _ _ => rfl)))) pa_nil)))
       (pss_cons (ps_setLc (i := 7) (own := [("_law_row", 9)]) (g := (gName 9)) (by rfl) sc_L_act.nd rfl rfl (sw_true rfl rfl rfl (by decide +kernel)) (pi_tup (pe_ix ix_list (pv 2) (pv 5) (fun _ _ => rfl))) (blkOk_by (own := [("_law_row", 9)]) (N := ["_law_actions", "_law_spots", "_law_marks", "_law_n", "_law_action_here", "_law_i", "_law_cell", "_law_rest", "_law_k", "_law_row"]) (sc := defScope s_L_act) (by decide +kernel)) (fun _ _ _ _ _ => (pg_name (i := 9) sc_L_act.nd rfl (Or.inl rfl) (Or.inr rfl))) (fun _ _ _ _ _ => (pts_one pt_no)) (fun _ _ _ _ _ => (pv 9)))
       (pss_cons (ps_if (pt_val (pe_ix ix_tup (pv 4) pe_int (fun _ _ => rfl)))
       (pss_one (ps_set (i := 7) sc_L_act.nd rfl (Or.inl rfl) (pe_op op_cat (pv 7) (pe_lst (pa_cons (pv 6) pa_nil)))))
       pss_nil)
       (pss_one (ps_asg (pe_ty call_tuple_of T.b_tuple (pa_cons pe_no pa_nil)) (pg_sub (pv 2) (pv 5) set_list)))))))))))))
       (pss_one (ps_if (PW.pt (pw_and (pt_cmpR op_ne (pe_ix ix_tup (pv 4) pe_int (fun _ _ => rfl)) pe_str (nomark _)) (pw_and1 (pt_not (pt_chain op_le op_lt pe_int (pe_ix ix_list (pv 1) (pv 5) (fun _ _ => rfl)) (pv 3))))))
       (pss_one (ps_ret pe_non))
       pss_nil)))))
       (pss_one (ps_ret (pe_tup (pa_cons (pe_ty call_tuple_of T.b_tuple (pa_cons (pv 1) pa_nil)) (pa_cons (pe_ty call_tuple_of T.b_tuple (pa_cons (pv 2) pa_nil)) pa_nil))))))))), ?_⟩
    obtain ⟨b, xs, rfl, e1, r1⟩ := hx.tup_inv
    have lx : xs.length = as.length := by rw [r1.len, List.length_map]
    refine ⟨_, rfl, sp, _, rfl, .inr (SqT.of hh), fun l nl => ?_⟩
    have sl := same_upd (o := .lst (hs.map V.int)) nl
    refine ⟨_, rfl, mp, _, rfl, .inr (SqT.of (sl _ _ hmk0)), fun w2 nw => ?_⟩
    have nlw : l ≠ w2 := fun z => by rw [← z, upd_same] at nw; cases nw
    have s1 : Same H (upd (upd H l (.lst (hs.map V.int))) w2 (.lst [])) := Same.tr sl (same_upd nw)
    have l1 : (upd (upd H l (.lst (hs.map V.int))) w2 (.lst [])) l = some (.lst (hs.map V.int)) := (upd_ne nlw).trans upd_same
    have w1 : (upd (upd H l (.lst (hs.map V.int))) w2 (.lst [])) w2 = some (.lst []) := upd_same
    generalize upd (upd H l (.lst (hs.map V.int))) w2 (.lst []) = H1 at s1 l1 w1 ⊢
    refine ⟨_, rfl, b, rfl, ⟨_, SqT.of (s1 _ _ e1)⟩, for_tup (K := K) (a := b) (xs := xs) (fun i σ H' => Same H H' ∧ (∃ hs', moves n hs (as.take i) = some hs' ∧ H' l = some (.lst (hs'.map V.int))) ∧ H' w2 = some (.lst []) ∧
      ∃ u v, σ = [some (.ref b), some (.ref l), some (.ref w2), some (vInt n), u, v, none, none, none, none]) ⟨s1, ⟨_, rfl, l1⟩, w1, _, _, rfl⟩ ?_ ?_ ?_⟩
    · rintro i σ H' hi ⟨s2, _⟩
      exact SqT.of (s2 _ _ e1)
    · rintro i x σ H' hx ⟨s2, ⟨hs', hm, l2⟩, w2', u, v, rfl⟩
      obtain ⟨a, ha, ra⟩ := r1.gets hx
      have oka := ok a (List.mem_of_getElem? ha)
      have hmk := moves_ok n1 (fun a ha => ok a (List.mem_of_mem_take ha)) hl hp hm
      have hlen := hmk.1
      have getv : ∀ {hs2 : List Int} {i : Nat}, i < hs2.length → (hs2.map V.int)[i]? = some (.int (at' hs2 i)) := fun {hs2 i} hi => by
        rw [List.getElem?_map, at_some hi]
        rfl
      have stay : ∀ {o : HO}, Same H (upd H' l o) := fun {o} b' o' e => by
        rw [upd_ne (ne_of_none e nl)]
        exact s2 _ _ e
      have wst : ∀ {o : HO}, (upd H' l o) w2 = some (.lst []) := fun {o} => (upd_ne nlw.symm).trans w2'
      have set_same : ∀ (hs2 : List Int) (i : Nat) (v : Int), i < hs2.length → at' (hs2.set i v) i = v := fun hs2 i v hi => by
        unfold at'
        rw [List.getElem?_set_self hi]
        rfl
      cases a with
      | up j =>
        obtain ⟨ta, rfl, f1⟩ := act_one ra
        have hj : j < hs'.length := by rw [hlen]; exact oka
        have hv := hmk.2 _ (at_mem hj)
        have f1 := s2 _ _ f1
        have ntl : ta ≠ l := ne_of f1 l2 (by intro z; cases z)
        refine ⟨_, rfl, _, _, (1 : Int), _, rfl, rfl, SqT.of f1, rfl, ?_⟩
        refine ⟨_, rfl, _, _, (0 : Int), _, rfl, rfl, SqT.of f1, rfl, rfl, _, rfl, iteTb (by decide +kernel) ?_⟩
        refine ⟨_, rfl, _, rfl, l, _, _, _, rfl, rfl, SqL.of l2, atI_nat (getv hj), _, _, rfl, rfl, _, rfl, _, rfl, l, _, _, j, rfl, rfl, l2, ixN_nat (by rw [List.length_map]; exact hj), ?_⟩
        rw [map_set_int]
        have f2 := (upd_ne (o := .lst ((hs'.set j (at' hs' j + 1)).map V.int)) ntl).trans f1
        have l3 : (upd H' l (.lst ((hs'.set j (at' hs' j + 1)).map V.int))) l = _ := upd_same
        refine ⟨_, rfl, _, _, (0 : Int), _, rfl, rfl, SqT.of f2, rfl, rfl, _, rfl, iteTb (by decide +kernel) ?_⟩
        refine ⟨_, rfl, _, rfl, l, _, _, _, rfl, rfl, SqL.of l3, atI_nat (getv (by rw [List.length_set]; exact hj)), _, _, rfl, rfl, _, rfl, ?_⟩
        rw [set_same _ _ _ hj]
        refine iteTb (decide_eq_true (by omega)) ⟨_, rfl, _, _, rfl, rfl, _, rfl, ?_⟩
        by_cases hn : at' hs' j + 1 = (n : Int)
        · refine iteTb (by rw [decide_eq_false (by omega)]; rfl) ((q _ stay).1 (moves_none ha hm ?_))
          exact if_pos hn
        · refine iteFb (by rw [decide_eq_true (by omega)]; rfl) ⟨stay, ⟨_, ?_, upd_same⟩, wst, _, _, rfl⟩
          rw [moves_take ha hm]
          exact if_neg hn
      | down j =>
        obtain ⟨ta, rfl, f1⟩ := act_one ra
        have hj : j < hs'.length := by rw [hlen]; exact oka
        have hv := hmk.2 _ (at_mem hj)
        have f1 := s2 _ _ f1
        have ntl : ta ≠ l := ne_of f1 l2 (by intro z; cases z)
        refine ⟨_, rfl, _, _, (1 : Int), _, rfl, rfl, SqT.of f1, rfl, ?_⟩
        refine ⟨_, rfl, _, _, (0 : Int), _, rfl, rfl, SqT.of f1, rfl, rfl, _, rfl, iteFb (by decide +kernel) ?_⟩
        refine ⟨_, rfl, _, _, (0 : Int), _, rfl, rfl, SqT.of f1, rfl, rfl, _, rfl, iteTb (by decide +kernel) ?_⟩
        refine ⟨_, rfl, _, rfl, l, _, _, _, rfl, rfl, SqL.of l2, atI_nat (getv hj), _, _, rfl, rfl, _, rfl, _, rfl, l, _, _, j, rfl, rfl, l2, ixN_nat (by rw [List.length_map]; exact hj), ?_⟩
        rw [map_set_int]
        have f2 := (upd_ne (o := .lst ((hs'.set j (at' hs' j - 1)).map V.int)) ntl).trans f1
        have l3 : (upd H' l (.lst ((hs'.set j (at' hs' j - 1)).map V.int))) l = _ := upd_same
        refine ⟨_, rfl, _, _, (0 : Int), _, rfl, rfl, SqT.of f2, rfl, rfl, _, rfl, iteTb (by decide +kernel) ?_⟩
        refine ⟨_, rfl, _, rfl, l, _, _, _, rfl, rfl, SqL.of l3, atI_nat (getv (by rw [List.length_set]; exact hj)), _, _, rfl, rfl, _, rfl, ?_⟩
        rw [set_same _ _ _ hj]
        by_cases hn : at' hs' j - 1 < 0
        · refine iteFb (decide_eq_false (by omega)) ⟨_, rfl, iteTb rfl ((q _ stay).1 (moves_none ha hm ?_))⟩
          exact if_pos hn
        · refine iteTb (decide_eq_true (by omega)) ⟨_, rfl, _, _, rfl, rfl, _, rfl, ?_⟩
          refine iteFb (by rw [decide_eq_true (by omega)]; rfl) ⟨stay, ⟨_, ?_, upd_same⟩, wst, _, _, rfl⟩
          rw [moves_take ha hm]
          exact if_neg hn
      | zero j =>
        obtain ⟨ta, rfl, f1⟩ := act_one ra
        have hj : j < hs'.length := by rw [hlen]; exact oka
        have hv := hmk.2 _ (at_mem hj)
        have f1 := s2 _ _ f1
        have ntl : ta ≠ l := ne_of f1 l2 (by intro z; cases z)
        refine ⟨_, rfl, _, _, (1 : Int), _, rfl, rfl, SqT.of f1, rfl, ?_⟩
        refine ⟨_, rfl, _, _, (0 : Int), _, rfl, rfl, SqT.of f1, rfl, rfl, _, rfl, iteFb (by decide +kernel) ?_⟩
        refine ⟨_, rfl, _, _, (0 : Int), _, rfl, rfl, SqT.of f1, rfl, rfl, _, rfl, iteFb (by decide +kernel) ?_⟩
        refine ⟨_, rfl, _, _, (0 : Int), _, rfl, rfl, SqT.of f1, rfl, rfl, _, rfl, iteTb (by decide +kernel) ?_⟩
        refine ⟨_, rfl, _, rfl, l, _, _, j, rfl, rfl, l2, ixN_nat (by rw [List.length_map]; exact hj), ?_⟩
        rw [map_set_int]
        have f2 := (upd_ne (o := .lst ((hs'.set j (0)).map V.int)) ntl).trans f1
        have l3 : (upd H' l (.lst ((hs'.set j (0)).map V.int))) l = _ := upd_same
        refine ⟨_, rfl, _, _, (0 : Int), _, rfl, rfl, SqT.of f2, rfl, rfl, _, rfl, iteTb (by decide +kernel) ?_⟩
        refine ⟨_, rfl, _, rfl, l, _, _, _, rfl, rfl, SqL.of l3, atI_nat (getv (by rw [List.length_set]; exact hj)), _, _, rfl, rfl, _, rfl, ?_⟩
        rw [set_same _ _ _ hj]
        refine iteTb (decide_eq_true (by omega)) ⟨_, rfl, _, _, rfl, rfl, _, rfl, ?_⟩
        refine iteFb (by rw [decide_eq_true (by omega)]; rfl) ⟨stay, ⟨_, ?_, upd_same⟩, wst, _, _, rfl⟩
        rw [moves_take ha hm]
        rfl
      | copy j k =>
        obtain ⟨ta, rfl, f1⟩ := act_two ra
        have hj : j < hs'.length := by rw [hlen]; exact oka.1
        have hv := hmk.2 _ (at_mem hj)
        have f1 := s2 _ _ f1
        have ntl : ta ≠ l := ne_of f1 l2 (by intro z; cases z)
        refine ⟨_, rfl, _, _, (1 : Int), _, rfl, rfl, SqT.of f1, rfl, ?_⟩
        refine ⟨_, rfl, _, _, (0 : Int), _, rfl, rfl, SqT.of f1, rfl, rfl, _, rfl, iteFb (by decide +kernel) ?_⟩
        refine ⟨_, rfl, _, _, (0 : Int), _, rfl, rfl, SqT.of f1, rfl, rfl, _, rfl, iteFb (by decide +kernel) ?_⟩
        refine ⟨_, rfl, _, _, (0 : Int), _, rfl, rfl, SqT.of f1, rfl, rfl, _, rfl, iteFb (by decide +kernel) ?_⟩
        refine ⟨_, rfl, _, _, (0 : Int), _, rfl, rfl, SqT.of f1, rfl, rfl, _, rfl, iteTb (by decide +kernel) ?_⟩
        have hk : k < hs'.length := by rw [hlen]; exact oka.2
        have hvk := hmk.2 _ (at_mem hk)
        refine ⟨_, rfl, _, rfl, _, _, (2 : Int), _, rfl, rfl, SqT.of f1, rfl, l, _, _, _, rfl, rfl, SqL.of l2, atI_nat (getv hk), _, rfl, _, rfl, l, _, _, j, rfl, rfl, l2, ixN_nat (by rw [List.length_map]; exact hj), ?_⟩
        rw [map_set_int]
        have f2 := (upd_ne (o := .lst ((hs'.set j (at' hs' k)).map V.int)) ntl).trans f1
        have l3 : (upd H' l (.lst ((hs'.set j (at' hs' k)).map V.int))) l = _ := upd_same
        refine ⟨_, rfl, _, _, (0 : Int), _, rfl, rfl, SqT.of f2, rfl, rfl, _, rfl, iteTb (by decide +kernel) ?_⟩
        refine ⟨_, rfl, _, rfl, l, _, _, _, rfl, rfl, SqL.of l3, atI_nat (getv (by rw [List.length_set]; exact hj)), _, _, rfl, rfl, _, rfl, ?_⟩
        rw [set_same _ _ _ hj]
        refine iteTb (decide_eq_true (by omega)) ⟨_, rfl, _, _, rfl, rfl, _, rfl, ?_⟩
        refine iteFb (by rw [decide_eq_true (by omega)]; rfl) ⟨stay, ⟨_, ?_, upd_same⟩, wst, _, _, rfl⟩
        rw [moves_take ha hm]
        rfl
    · rintro σ H' ⟨s2, ⟨hs', hm, l2⟩, w2', u, v, rfl⟩
      rw [lx, List.take_length] at hm
      refine ⟨_, rfl, l, _, rfl, .inl ⟨SqL.of l2, fun ta nta => ?_⟩⟩
      have sa := same_upd (o := .tup (hs'.map V.int)) nta
      refine ⟨_, rfl, w2, _, rfl, .inl ⟨SqL.of (sa _ _ w2'), fun tb ntb => ⟨by show 2 ≤ sizeLine; decide, fun t nt => ?_⟩⟩⟩
      have sb := same_upd (o := .tup []) ntb
      have sc := same_upd (o := .tup [.ref ta, .ref tb]) nt
      exact (q _ (Same.tr s2 (Same.tr sa (Same.tr sb sc)))).2 hs' t ta tb hm upd_same (sc _ _ (sb _ _ upd_same)) (sc _ _ upd_same)
end K54
set_option Elab.async false
set_option linter.all false
set_option maxRecDepth 100000
set_option maxHeartbeats 4000000
set_option pp.maxSteps 800
namespace K54
open PySem PySem.Spec PyProof.Rows L2
variable {P : Program} {w : World} {K : PySem.W.Frag} {mg : Str → Option Value} {base : Heap}
def ixs (rs : List Rule) (q : Nat) : List V := (ruAt rs q).map fun p => vInt p.2
def ByL (H : Hp) (rw : Addr) (m : Mach) : Prop := ∃ ls : List Addr, H rw = some (.lst (ls.map V.ref)) ∧ ls.length = m.st ∧ ∀ q l, ls[q]? = some l → H l = some (.lst (ixs m.rs q))
theorem ByL.mono {H H' : Hp} {rw : Addr} {m : Mach} (h : ByL H rw m) (s : Same H H') : ByL H' rw m :=
  let ⟨ls, e, l, r⟩ := h
  ⟨ls, s _ _ e, l, fun q x hx => s _ _ (r q x hx)⟩
def spByL : Sp := fun vs H Q _ => ∃ (x : V) (m : Mach), vs = [x] ∧ Dv H x (machD m) ∧ MachOk m ∧ ∀ H' rw, Same H H' → ByL H' rw m → Q (.ref rw) H'
theorem sc_L_by_state : FnScope ["_law_machine_here", "_law_rows", "_law_index", "_law_state"] ["_law_machine_here"] (defScope s_L_by_state) := ⟨rfl, rfl, rfl, by decide +kernel, rfl, by decide +kernel, by decide +kernel⟩
theorem d_L_by_state (T : Txt w K mg) : Def P w K mg base CX0 1 ("_law_by_state", none) ["_law_machine_here"] (spByL) := by
  refine Def.of0 (k := 0) T.f_L_by_state sc_L_by_state (fun _ _ _ _ _ _ us hl => match us, hl with | [_], _ => rfl) (fun vs H Q E h => ?_) (fun cdv A outer s H vs Q E hr h => ?_)
  · obtain ⟨x, m, rfl, _⟩ := h
    rfl
  · obtain ⟨x, m, rfl, hm, ok, q⟩ := h
    refine ⟨_, ((pss_cons (ps_setLc (i := 1) (own := [("_law_state", 3)]) (g := (gName 3)) (by rfl) sc_L_by_state.nd rfl rfl (sw_true rfl rfl rfl (by decide +kernel)) (pi_range1 (by rfl) T.b_range (pa_cons (pe_ix ix_tup (pv 0) pe_int (fun _ _ => rfl)) pa_nil)) (blkOk_by (own := [("_law_state", 3)]) (N := ["_law_machine_here", "_law_rows", "_law_index", "_law_state"]) (sc := defScope s_L_by_state) (by decide +kernel)) (fun _ _ _ _ _ => (pg_name (i := 3) sc_L_by_state.nd rfl (Or.inl rfl) (Or.inr rfl))) (fun _ _ _ _ _ => pts_nil) (fun _ _ _ _ _ => (pe_lst pa_nil)))
       (pss_cons (ps_for PassesOwn.never rfl (pi_range1 (by rfl) T.b_range (pa_cons (pe_b call_len_seq T.b_len (pa_cons (pe_ix ix_tup (pv 0) pe_int (fun _ _ => rfl)) pa_nil)) pa_nil)) (pg_name (i := 2) sc_L_by_state.nd rfl (Or.inl rfl))
       (pss_one (ps_expr (pe_bm PySem.F.plainAttrs_list PySem.F.slot_list_append PySem.F.type_list_append mt_append (pe_ix ix_list (pv 1) (pe_ix ix_tup (pe_ix ix_tup (pe_ix ix_tup (pv 0) pe_int (fun _ _ => rfl)) (pv 2) (fun _ _ => rfl)) pe_int (fun _ _ => rfl)) (fun _ _ => rfl)) (pa_cons (pv 2) pa_nil)))))
       (pss_one (ps_ret (pv 1)))))), ?_⟩
    obtain ⟨a, c, dd, ys, rfl, e1, e2, e3, q3⟩ := mach_inv hm
    have l3 : ys.length = m.rs.length := by rw [q3.len, List.length_map]
    have := ok.st
    have := ok.nrs
    refine ⟨_, rfl, _, _, (2 : Int), _, rfl, rfl, SqT.of e1, rfl, m.st, rfl, by omega, by omega, fun D nD => lc_range (lo := 0) (n := m.st) (fun i H2 => Same H H2 ∧ ∃ ls : List Addr, H2 D = some (.lst (ls.map V.ref)) ∧ ls.length = i ∧ ls.Nodup ∧ ∀ l ∈ ls, H2 l = some (.lst []) ∧ l ≠ D ∧ H l = none) ⟨same_upd nD, [], upd_same, rfl, List.nodup_nil, fun l hl => (nomatch hl)⟩ ?_ ?_⟩
    · rintro i H2 hi ⟨s2, ls, eD, ll, nd, al⟩
      refine ⟨rfl, Nat.zero_le _, fun p np => ?_⟩
      have s3 := same_upd (o := .lst []) np
      have eD3 := s3 _ _ eD
      have ep3 : (upd H2 p (.lst [])) p = some (.lst []) := upd_same
      have npD : p ≠ D := (ne_of_none eD np).symm
      have np0 : H p = none := by
        cases hp : H p with
        | none => rfl
        | some o => rw [s2 _ _ hp] at np; cases np
      refine ⟨_, eD3, by rw [List.length_map, ll, sizeLine_eq]; omega, fun b o e => ?_, ls ++ [p], ?_, by rw [List.length_append, ll]; rfl, ?_, fun l hl => ?_⟩
      · rw [upd_ne (ne_of_none e nD)]
        exact s3 _ _ (s2 _ _ e)
      · rw [List.map_append]
        exact upd_same
      · rw [List.nodup_append]
        refine ⟨nd, by simp, ?_⟩
        intro a ha b hb e
        rw [List.mem_singleton.mp hb] at e
        have := (al a ha).1
        rw [e, np] at this
        cases this
      · rcases List.mem_append.mp hl with hl | hl
        · obtain ⟨h1, h2, h3⟩ := al l hl
          exact ⟨(upd_ne h2).trans (s3 _ _ h1), h2, h3⟩
        · rw [List.mem_singleton.mp hl]
          exact ⟨(upd_ne npD).trans ep3, npD, np0⟩
    rintro H2 ⟨s2, ls, eD, ll, nd, al⟩
    refine ⟨_, rfl, _, _, (3 : Int), _, rfl, rfl, SqT.of (s2 _ _ e1), rfl, dd, _, rfl, .inr (SqT.of (s2 _ _ e3)), ys.length, rfl, by omega, by omega, for_range (n := ys.length) (fun i σ H' => Same H H' ∧ H' D = some (.lst (ls.map V.ref)) ∧ (∀ q l, ls[q]? = some l → H' l = some (.lst (ixs (m.rs.take i) q))) ∧ ∃ v, σ = [some (.ref a), some (.ref D), v, none])
      ⟨s2, eD, fun q l hl => (al l (List.mem_of_getElem? hl)).1, _, rfl⟩ ?_ ?_⟩
    · rintro i σ H3 hi ⟨s3, eD3, hl3, v, rfl⟩
      have hi2 : i < m.rs.length := by rw [← l3]; exact hi
      obtain ⟨r, hr1⟩ : ∃ r, m.rs[i]? = some r := ⟨_, List.getElem?_eq_getElem hi2⟩
      obtain ⟨y, hy, ry⟩ := q3.get (i := i) (d := ruleD r) (by rw [List.getElem?_map, hr1]; rfl)
      obtain ⟨ra, rc, rd, rxs, rys, rfl, g1, _⟩ := rule_inv ry
      have rok := ok.rs r (List.mem_of_getElem? hr1)
      obtain ⟨l, hl⟩ : ∃ l, ls[r.q]? = some l := ⟨_, List.getElem?_eq_getElem (by rw [ll]; exact rok.q)⟩
      have hlm := al l (List.mem_of_getElem? hl)
      have hll := hl3 r.q l hl
      have hget : (ls.map V.ref)[r.q]? = some (.ref l) := by rw [List.getElem?_map, hl]; rfl
      have lix : (ixs (m.rs.take i) r.q).length ≤ 1000 := by
        unfold ixs
        rw [List.length_map]
        have := (List.filter_sublist (l := (m.rs.take i).zipIdx) (p := fun p => decide (p.1.q = r.q))).length_le
        rw [List.length_zipIdx, List.length_take] at this
        have e : (ruAt (m.rs.take i) r.q).length ≤ i := Nat.le_trans this (Nat.min_le_left _ _)
        omega
      have hyi : ys[(i : Nat)]? = some (.ref ra) := hy
      refine ⟨_, rfl, _, rfl, _, _, (3 : Int), _, rfl, rfl, SqT.of (s3 _ _ e1), rfl, _, rfl, dd, _, _, _, rfl, rfl, SqT.of (s3 _ _ e3), (by rw [Int.zero_add]; exact atI_nat hyi), _, _, (0 : Int), _, rfl, rfl, SqT.of (s3 _ _ g1), rfl, D, _, _, _, rfl, rfl, SqL.of eD3, atI_nat hget, .inl ⟨rfl, _, SqL.of hll⟩, _, rfl, l, _, _, rfl, rfl, hll, by rw [sizeLine_eq]; omega, ?_⟩
      refine ⟨fun b o e => ?_, (upd_ne hlm.2.1.symm).trans eD3, fun q l' hl' => ?_, _, rfl⟩
      · rw [upd_ne (ne_of_none e hlm.2.2)]
        exact s3 _ _ e
      · by_cases hq : r.q = q
        · subst hq
          rw [hl] at hl'
          cases hl'
          rw [upd_same]
          unfold ixs
          rw [ruAt_take_succ_eq hr1, List.map_append]
          show some (HO.lst (_ ++ [V.int (0 + (i : Nat))])) = _
          rw [Int.zero_add]
          rfl
        · have hne : l' ≠ l := fun z => by
            have h1 := List.getElem?_eq_some_iff.mp hl
            have h2 := List.getElem?_eq_some_iff.mp hl'
            rcases Nat.lt_trichotomy r.q q with h | h | h
            · exact List.pairwise_iff_getElem.mp nd r.q q h1.1 h2.1 h (h1.2.trans (z.symm.trans h2.2.symm))
            · exact hq h
            · exact List.pairwise_iff_getElem.mp nd q r.q h2.1 h1.1 h (h2.2.trans (z.trans h1.2.symm))
          rw [upd_ne hne, hl3 q l' hl']
          unfold ixs
          rw [ruAt_take_succ_ne hr1 hq]
    · rintro σ H3 ⟨s3, eD3, hl3, v, rfl⟩
      rw [l3, List.take_length] at hl3
      exact ⟨_, rfl, q H3 D s3 ⟨ls, eD3, ll, hl3⟩⟩
theorem ruAt_get {rs : List Rule} {q : Nat} {p : Rule × Nat} (h : p ∈ ruAt rs q) : rs[p.2]? = some p.1 := by
  unfold ruAt at h
  rw [List.mem_filter] at h
  exact List.mem_zipIdx_iff_getElem?.mp h.1
def spAfter (P : Program) (w : World) : Sp := fun vs H Q _ => ∃ (x hv : V) (rw rd : Addr) (m : Mach) (n : Nat) (rels : List Rl) (c : Cf), vs = [x, .ref rw, vInt n, .ref rd, hv] ∧ Dv H x (machD m) ∧ MachOk m ∧ ByL H rw m ∧ KyT H (nk c) hv ∧ LRel P w H rd rels ∧ CfOk m n c ∧ 1 ≤ n ∧
  Sees m rels ∧ (rels.map Rl.z).Nodup ∧ ∀ H' l vs, Same H H' → H' l = some (.lst vs) → Paired (FoT H') vs (nexts m n (relHas rels) c) → Q (.ref l) H'
theorem sc_L_after : FnScope ["_law_machine_here", "_law_rows", "_law_n", "_law_rels", "_law_here", "_law_found", "_law_index", "_law_rule_here", "_law_after_here"] ["_law_machine_here", "_law_rows", "_law_n", "_law_rels", "_law_here"] (defScope s_L_after) := ⟨rfl, rfl, rfl, by decide +kernel, rfl, by decide +kernel, by decide +kernel⟩
theorem d_L_after (T : Txt w K mg) : Def P w K mg base CX0 3 ("_law_after", none) ["_law_machine_here", "_law_rows", "_law_n", "_law_rels", "_law_here"] (spAfter P w) := by
  refine Def.of0 (k := 2) T.f_L_after sc_L_after (fun _ _ _ _ _ _ us hl => match us, hl with | [_, _, _, _, _], _ => rfl) (fun vs H Q E h => ?_) (fun cdv A outer s H vs Q E hr h => ?_)
  · obtain ⟨x, hv, rw, rd, m, n, rels, c, rfl, _⟩ := h
    rfl
  · obtain ⟨x, hv, rw, rd, m, n, rels, c, rfl, hm, ok, hby, hk, hrel, ck, n1, see, nd, q⟩ := h
    refine ⟨_, ((pss_cons (ps_set (i := 5) sc_L_after.nd rfl (Or.inl rfl) (pe_lst pa_nil))
       (pss_cons (ps_for PassesOwn.never rfl (pi_list (pe_ix ix_list (pv 1) (pe_ix ix_tup (pv 4) pe_int (fun _ _ => rfl)) (fun _ _ => rfl))) (pg_name (i := 6) sc_L_after.nd rfl (Or.inl rfl))
       (pss_cons (ps_set (i := 7) sc_L_after.nd rfl (Or.inl rfl) (pe_ix ix_tup (pe_ix ix_tup (pv 0) pe_int (fun _ _ => rfl)) (pv 6) (fun _ _ => rfl)))
       (pss_one (ps_if (pt_val (pe_f (d_L_all_hold T) (hr.mono (by decide)) T.g_L_all_hold pass0 (pa_cons (pe_ix ix_tup (pv 7) pe_int (fun _ _ => rfl)) (pa_cons (pv 4) (pa_cons (pv 2) (pa_cons (pv 3) pa_nil))))))
       (pss_cons (ps_set (i := 8) sc_L_after.nd rfl (Or.inl rfl) (pe_f (d_L_act T) (hr.mono (by decide)) T.g_L_act pass0 (pa_cons (pe_ix ix_tup (pv 7) pe_int (fun _ _ => rfl)) (pa_cons (pe_ix ix_tup (pv 4) pe_int (fun _ _ => rfl)) (pa_cons (pe_ix ix_tup (pv 4) pe_int (fun _ _ => rfl)) (pa_cons (pv 2) pa_nil))))))
       (pss_one (ps_if (pt_cmpR op_notN (pv 8) pe_non (nomark _))
       (pss_one (ps_expr (pe_bm PySem.F.plainAttrs_list PySem.F.slot_list_append PySem.F.type_list_append mt_append (pv 5) (pa_cons (pe_tup (pa_cons (pv 6) (pa_cons (pe_tup (pa_cons (pe_ix ix_tup (pv 7) pe_int (fun _ _ => rfl)) (pa_cons (pe_ix ix_tup (pv 8) pe_int (fun _ _ => rfl)) (pa_cons (pe_ix ix_tup (pv 8) pe_int (fun _ _ => rfl)) pa_nil)))) pa_nil))) pa_nil))))
       pss_nil)))
       pss_nil))))
       (pss_one (ps_ret (pv 5)))))), ?_⟩
    obtain ⟨a, cc, dd, ys, rfl, e1, e2, e3, q3⟩ := mach_inv hm
    obtain ⟨hva, h1, m1, rfl, ea, eh, em⟩ := cf_inv hk
    obtain ⟨ls, erw, ll, hls⟩ := hby
    refine ⟨Nat.zero_le _, fun F nF => ?_⟩
    have s1 := same_upd (o := .lst []) nF
    have eF : (upd H F (.lst [])) F = some (.lst []) := upd_same
    generalize upd H F (.lst []) = H1 at s1 eF ⊢
    obtain ⟨l, hl⟩ : ∃ l, ls[c.1]? = some l := ⟨_, List.getElem?_eq_getElem (by rw [ll]; exact ck.q)⟩
    have hll := hls c.1 l hl
    have hget : (ls.map V.ref)[c.1]? = some (.ref l) := by rw [List.getElem?_map, hl]; rfl
    have nlF : l ≠ F := ne_of_none hll nF
    have lru := ruAt_few ok c.1
    have lixs : (ixs m.rs c.1).length = (ruAt m.rs c.1).length := by unfold ixs; rw [List.length_map]
    refine ⟨_, rfl, _, rfl, _, _, (0 : Int), _, rfl, rfl, SqT.of (s1 _ _ ea), rfl, rw, _, _, _, rfl, rfl, SqL.of (s1 _ _ erw), atI_nat hget, l, rfl, ⟨_, SqL.of (s1 _ _ hll)⟩, for_list (K := K) (a := l) (xs := ixs m.rs c.1) (fun i σ H' => Same H H' ∧ (∃ vs, H' F = some (.lst vs) ∧ Paired (FoT H') vs (((ruAt m.rs c.1).take i).filterMap (applyR n (relHas rels) c.2)) ∧ vs.length ≤ i) ∧
      ∃ u v b, σ = [some (.ref a), some (.ref rw), some (vInt n), some (.ref rd), some (.ref hva), some (.ref F), u, v, b]) ⟨s1, ⟨[], eF, .nil, Nat.le_refl _⟩, _, _, _, rfl⟩ ?_ ?_ ?_⟩
    · rintro i σ H' hi ⟨s2, _⟩
      exact SqL.of (s2 _ _ hll)
    · rintro i y σ H2 hy ⟨s2, ⟨vs, eF2, rF, lv⟩, u, v, b, rfl⟩
      have hi1 : i < 1000 := by
        have := (List.getElem?_eq_some_iff.mp hy).1
        rw [lixs] at this
        omega
      unfold ixs at hy
      rw [List.getElem?_map] at hy
      cases hp : (ruAt m.rs c.1)[i]? with
      | none => rw [hp] at hy; cases hy
      | some pr =>
        rw [hp] at hy
        cases hy
        have hpm := List.mem_of_getElem? hp
        have hrg := ruAt_get hpm
        have hrm := ruAt_mem hpm
        have rok := ok.rs _ hrm.1
        obtain ⟨y, hy2, ry⟩ := q3.get (i := pr.2) (d := ruleD pr.1) (by rw [List.getElem?_map, hrg]; rfl)
        obtain ⟨ra, rc, rdd, rxs, rys, rfl, g1, g2, g3, g4, g5⟩ := rule_inv ry
        refine ⟨_, rfl, _, _, (3 : Int), _, rfl, rfl, SqT.of (s2 _ _ e1), rfl, _, rfl, dd, _, _, _, rfl, rfl, SqT.of (s2 _ _ e3), atI_nat hy2, ?_⟩
        refine ⟨_, rfl, _, _, (1 : Int), _, rfl, rfl, SqT.of (s2 _ _ g1), rfl, _, rfl, _, rfl, _, rfl, .ref rc, .ref hva, rd, m, n, rels, c, pr.1.cs, rfl, .tup (s2 _ _ g2) (g3.mono s2), hk.mono (Same.tupS s2), hrel.mono s2, rok.cs, ck.len, fun z is f hz => see _ hrm.1 z is f hz, nd, fun H3 s3 => ⟨_, rfl, ?_⟩⟩
        have s03 := Same.tr s2 s3
        have eF3 := s3 _ _ eF2
        have rF3 : Paired (FoT H3) vs (((ruAt m.rs c.1).take i).filterMap (applyR n (relHas rels) c.2)) := Paired.mapP rF fun _ _ z => z.mono (Same.tupS s3)
        refine iteB (fun hall => ?_) (fun hall => ?_)
        · refine ⟨_, rfl, _, _, (2 : Int), _, rfl, rfl, SqT.of (s03 _ _ g1), rfl, _, rfl, _, _, (1 : Int), _, rfl, rfl, SqT.of (s03 _ _ ea), rfl, _, rfl, _, _, (2 : Int), _, rfl, rfl, SqT.of (s03 _ _ ea), rfl, _, rfl, .ref rdd, h1, m1, n, m.h, c.2, pr.1.as, rfl, .tup (s03 _ _ g4) (g5.mono s03), s03 _ _ eh, s03 _ _ em, rok.as, ck.len, ck.pos, n1, fun H4 s4 => ⟨fun hmv => ?_, fun hs' tt h2 w2 hmv ett eh2 ew2 => ?_⟩⟩
          · refine ⟨_, rfl, rfl, _, rfl, iteFb rfl ?_⟩
            refine ⟨Same.tr s03 s4, ⟨vs, s4 _ _ eF3, ?_, by omega⟩, _, _, _, rfl⟩
            rw [nexts_take (m := m) hp]
            have : applyR n (relHas rels) c.2 pr = none := by
              unfold applyR
              rw [if_pos hall, hmv]
              rfl
            rw [this, Option.toList_none, List.append_nil]
            exact Paired.mapP rF3 fun _ _ z => z.mono (Same.tupS s4)
          · refine ⟨_, rfl, rfl, _, rfl, iteTb rfl ?_⟩
            have eF4 := s4 _ _ eF3
            refine ⟨_, rfl, .inl ⟨rfl, _, SqL.of eF4⟩, _, rfl, _, rfl, _, _, (3 : Int), _, rfl, rfl, SqT.of (s4 _ _ (s03 _ _ g1)), rfl, _, rfl, _, _, (0 : Int), _, rfl, rfl, SqT.of ett, rfl, _, rfl, _, _, (1 : Int), _, rfl, rfl, SqT.of ett, rfl, by show 3 ≤ sizeLine; decide, fun t5 nt5 => ⟨by show 2 ≤ sizeLine; decide, fun t6 nt6 => ?_⟩⟩
            have s5 := same_upd (o := .tup [vInt pr.1.q', .ref h2, .ref w2]) nt5
            have s6 := same_upd (o := .tup [vInt pr.2, .ref t5]) nt6
            have kk : KyT (upd (upd H4 t5 (.tup [vInt pr.1.q', .ref h2, .ref w2])) t6 (.tup [vInt pr.2, .ref t5])) (nk (pr.1.q', hs')) (.ref t5) := (cf_mk (c := (pr.1.q', hs')) upd_same (s5 _ _ eh2) (s5 _ _ ew2)).mono (Same.tupS s6)
            have e6 : (upd (upd H4 t5 (.tup [vInt pr.1.q', .ref h2, .ref w2])) t6 (.tup [vInt pr.2, .ref t5])) t6 = _ := upd_same
            have s56 := Same.tr s5 s6
            generalize upd (upd H4 t5 (.tup [vInt pr.1.q', .ref h2, .ref w2])) t6 (.tup [vInt pr.2, .ref t5]) = H6 at kk e6 s56 ⊢
            have eF6 := s56 _ _ eF4
            refine ⟨F, _, _, rfl, rfl, eF6, by rw [sizeLine_eq]; omega, ?_⟩
            have t7 : TupS H6 (upd H6 F (.lst (vs ++ [.ref t6]))) := tupS_upd (fun ys e => by rw [eF6] at e; cases e)
            refine ⟨fun b' o e => ?_, ⟨_, upd_same, ?_, by rw [List.length_append, List.length_singleton]; omega⟩, _, _, _, rfl⟩
            · rw [upd_ne (ne_of_none e nF)]
              exact s56 _ _ (s4 _ _ (s03 _ _ e))
            · rw [nexts_take (m := m) hp]
              have : applyR n (relHas rels) c.2 pr = some (pr.2, (pr.1.q', hs')) := by
                unfold applyR
                rw [if_pos hall, hmv]
                rfl
              rw [this, Option.toList_some]
              exact (Paired.mapP rF3 fun _ _ z => z.mono ((Same.tupS (Same.tr s4 s56)).trans t7)).snoc ⟨t6, .ref t5, rfl, t7 _ _ e6, kk.mono t7⟩
        · refine ⟨s03, ⟨vs, eF3, ?_, by omega⟩, _, _, _, rfl⟩
          rw [nexts_take (m := m) hp]
          have : applyR n (relHas rels) c.2 pr = none := by
            unfold applyR
            rw [if_neg (by rw [hall]; exact Bool.false_ne_true)]
          rw [this, Option.toList_none, List.append_nil]
          exact rF3
    · rintro σ H' ⟨s2, ⟨vs, eF2, rF, lv⟩, u, v, b, rfl⟩
      rw [lixs, List.take_length] at rF
      exact ⟨_, rfl, q H' F vs s2 eF2 rF⟩
def spNext (P : Program) (w : World) : Sp := fun vs H Q _ => ∃ (x hv : V) (rd : Addr) (m : Mach) (n : Nat) (rels : List Rl) (c : Cf), vs = [x, vInt n, .ref rd, hv] ∧ Dv H x (machD m) ∧ MachOk m ∧ KyT H (nk c) hv ∧ LRel P w H rd rels ∧ CfOk m n c ∧ 1 ≤ n ∧
  Sees m rels ∧ (rels.map Rl.z).Nodup ∧ ∀ H' l vs, Same H H' → H' l = some (.lst vs) → Paired (FoT H') vs (nexts m n (relHas rels) c) → Q (.ref l) H'
theorem sc_L_next : FnScope ["_law_machine_here", "_law_n", "_law_rels", "_law_here"] ["_law_machine_here", "_law_n", "_law_rels", "_law_here"] (defScope s_L_next) := ⟨rfl, rfl, rfl, by decide +kernel, rfl, by decide +kernel, by decide +kernel⟩
theorem d_L_next (T : Txt w K mg) : Def P w K mg base CX0 4 ("_law_next", none) ["_law_machine_here", "_law_n", "_law_rels", "_law_here"] (spNext P w) := by
  refine Def.of0 (k := 3) T.f_L_next sc_L_next (fun _ _ _ _ _ _ us hl => match us, hl with | [_, _, _, _], _ => rfl) (fun vs H Q E h => ?_) (fun cdv A outer s H vs Q E hr h => ?_)
  · obtain ⟨x, hv, rd, m, n, rels, c, rfl, _⟩ := h
    rfl
  · obtain ⟨x, hv, rd, m, n, rels, c, rfl, hm, ok, hk, hrel, ck, n1, see, nd, q⟩ := h
    refine ⟨_, ((pss_one (ps_ret (pe_f (d_L_after T) (hr.mono (by decide)) T.g_L_after pass0 (pa_cons (pv 0) (pa_cons (pe_f (d_L_by_state T) (hr.mono (by decide)) T.g_L_by_state pass0 (pa_cons (pv 0) pa_nil)) (pa_cons (pv 1) (pa_cons (pv 2) (pa_cons (pv 3) pa_nil))))))))), ?_⟩
    refine ⟨_, rfl, _, rfl, x, m, rfl, hm, ok, fun H1 rw s1 hby => ?_⟩
    exact ⟨_, rfl, _, rfl, _, rfl, x, hv, rw, rd, m, n, rels, c, rfl, hm.mono s1, ok, hby, hk.mono (Same.tupS s1), hrel.mono s1, ck, n1, see, nd, fun H2 l vs s2 el rl => q H2 l vs (Same.tr s1 s2) el rl⟩
end K54
set_option Elab.async false
set_option linter.all false
set_option maxRecDepth 100000
set_option maxHeartbeats 4000000
set_option pp.maxSteps 800
namespace K54
open PySem PySem.Spec PyProof.Rows L2
variable {P : Program} {w : World} {K : PySem.W.Frag} {mg : Str → Option Value} {base : Heap}
theorem atI_lastn {vs : List V} {v : V} (h : vs[vs.length - 1]? = some v) : atI vs ((vs.length : Int) - 1) = some v := by
  have h1 := (List.getElem?_eq_some_iff.mp h).1
  have e : ((vs.length : Int) - 1) = ((vs.length - 1 : Nat) : Int) := by omega
  rw [e]
  exact atI_nat h
structure LawW (P : Program) (w : World) (H : Hp) (x : V) (rd : Addr) (m : Mach) (n : Nat) (rels : List Rl) : Prop where
  mv : Dv H x (machD m)
  ok : MachOk m
  ts : m.ts = []
  rl : LRel P w H rd rels
  nd : (rels.map Rl.z).Nodup
  sees : Sees m rels
  n1 : 1 ≤ n
  small : m.st * n ^ m.h ≤ 2000
theorem LawW.mono {H H' : Hp} {x : V} {rd : Addr} {m : Mach} {n : Nat} {rels : List Rl} (g : LawW P w H x rd m n rels) (s : Same H H') : LawW P w H' x rd m n rels :=
  ⟨g.mv.mono s, g.ok, g.ts, g.rl.mono s, g.nd, g.sees, g.n1, g.small⟩
def spLLevels (P : Program) (w : World) : Sp := fun vs H Q _ => ∃ (x : V) (rd : Addr) (m : Mach) (n : Nat) (rels : List Rl), vs = [x, vInt n, .ref rd] ∧ LawW P w H x rd m n rels ∧
  ∀ H' ls ws r, Same H H' → IsLv m n (relHas rels) r → H ls = none → H' ls = some (.lst ws) → Paired (LvT ls H') ws (lvls m n (relHas rels) r) → Q (.ref ls) H'
theorem sc_L_levels : FnScope ["_law_machine_here", "_law_n", "_law_rels", "_law_levels_here", "_law_turn", "_law_last", "_law_known", "_law_here", "_law_pair"] ["_law_machine_here", "_law_n", "_law_rels"] (defScope s_L_levels) := ⟨rfl, rfl, rfl, by decide +kernel, rfl, by decide +kernel, by decide +kernel⟩
theorem d_L_levels (T : Txt w K mg) : Def P w K mg base CX0 5 ("_law_levels", none) ["_law_machine_here", "_law_n", "_law_rels"] (spLLevels P w) := by
  refine Def.of0 (k := 4) T.f_L_levels sc_L_levels (fun _ _ _ _ _ _ us hl => match us, hl with | [_, _, _], _ => rfl) (fun vs H Q E h => ?_) (fun cdv A outer s H vs Q E hr h => ?_)
  · obtain ⟨x, rd, m, n, rels, rfl, _⟩ := h
    rfl
  · obtain ⟨x, rd, m, n, rels, rfl, g, q⟩ := h
    refine ⟨_, ((pss_cons (ps_set (i := 3) sc_L_levels.nd rfl (Or.inl rfl) (pe_lst (pa_cons (pe_lst (pa_cons (pe_f (d_L_first T) (hr.mono (by decide)) T.g_L_first pass0 (pa_cons (pv 0) pa_nil)) pa_nil)) pa_nil)))
       (pss_cons (ps_for PassesOwn.never rfl (pi_range1 (by rfl) T.b_range (pa_cons pe_int pa_nil)) (pg_name (i := 4) sc_L_levels.nd rfl (Or.inl rfl))
       (pss_cons (ps_set (i := 5) sc_L_levels.nd rfl (Or.inl rfl) (pe_ix ix_list (pv 3) (pe_op op_sub (pe_b call_len_seq T.b_len (pa_cons (pv 3) pa_nil)) pe_int) (fun _ _ => rfl)))
       (pss_cons (ps_set (i := 6) sc_L_levels.nd rfl (Or.inl rfl) pe_dnewN)
       (pss_cons (ps_for PassesOwn.never rfl (pi_list (pv 5)) (pg_name (i := 7) sc_L_levels.nd rfl (Or.inl rfl))
       (pss_cons (ps_asg pe_bl (pg_sub (pv 6) (pv 7) (set_N hr.units)))
       (pss_one (ps_for PassesOwn.never rfl (pi_list (pe_f (d_L_next T) (hr.mono (by decide)) T.g_L_next pass0 (pa_cons (pv 0) (pa_cons (pv 1) (pa_cons (pv 2) (pa_cons (pv 7) pa_nil)))))) (pg_name (i := 8) sc_L_levels.nd rfl (Or.inl rfl))
       (pss_one (ps_asg pe_bl (pg_sub (pv 6) (pe_ix ix_tup (pv 8) pe_int (fun _ _ => rfl)) (set_N hr.units))))))))
       (pss_cons (ps_expr (pe_bm PySem.F.plainAttrs_list PySem.F.slot_list_append PySem.F.type_list_append mt_append (pv 3) (pa_cons (pe_b (cr_sortedN rfl hr.units) T.b_sorted (pa_cons (pv 6) pa_nil)) pa_nil)))
       (pss_one (ps_if (pt_cmpR op_eq (pe_b call_lenN T.b_len (pa_cons (pv 6) pa_nil)) (pe_b call_len_seq T.b_len (pa_cons (pv 5) pa_nil)) (nomark _))
       (pss_one (ps_ret (pv 3)))
       pss_nil)))))))
       (pss_one (ps_ret (pv 3)))))), ?_⟩
    have hh2 := g.ok.h
    refine ⟨_, rfl, x, m, rfl, g.mv, g.ts, hh2, fun H1 v s1 kv => ?_⟩
    obtain ⟨av, rfl⟩ := kv.ref
    refine ⟨by show 1 ≤ sizeLine; decide, fun l0 nl0 => ⟨by show 1 ≤ sizeLine; decide, fun ls nls => ?_⟩⟩
    have sa := same_upd (o := .lst [.ref av]) nl0
    have sb := same_upd (o := .lst [.ref l0]) nls
    have el0 := sb _ _ (upd_same (H := H1) (a := l0) (o := .lst [.ref av]))
    have els : (upd (upd H1 l0 (.lst [.ref av])) ls (.lst [.ref l0])) ls = some (.lst [.ref l0]) := upd_same
    have s2 := Same.tr s1 (Same.tr sa sb)
    have kv2 := kv.mono (Same.tupS (Same.tr sa sb))
    have nl0ls : l0 ≠ ls := ne_of_none (upd_same (H := H1) (a := l0) (o := .lst [.ref av])) nls
    have nls0 : H ls = none := by
      cases hl : H ls with
      | none => rfl
      | some o => rw [sa _ _ (s1 _ _ hl)] at nls; cases nls
    generalize upd (upd H1 l0 (.lst [.ref av])) ls (.lst [.ref l0]) = H2 at el0 els s2 kv2 ⊢
    refine ⟨20002, rfl, by decide, by decide, for_range (n := 20002) (fun t σ H' => Same H H' ∧ (∃ ws, H' ls = some (.lst ws) ∧ Paired (LvT ls H') ws ((List.range (t + 1)).map (LL m n (relHas rels)))) ∧ (∀ i, i < t → (LL m n (relHas rels) (i + 1)).length ≠ (LL m n (relHas rels) i).length) ∧
      ∃ a b c d e, σ = [some x, some (vInt n), some (.ref rd), some (.ref ls), a, b, c, d, e]) ⟨s2, ⟨[.ref l0], els, .cons ⟨l0, [av], rfl, el0, .cons kv2 .nil, nl0ls⟩ .nil⟩, fun i h => absurd h (Nat.not_lt_zero _), _, _, _, _, _, rfl⟩ ?_ ?_⟩
    · rintro t σ H3 ht ⟨s3, ⟨ws, els3, rws⟩, gos, a, b, c, d, e, rfl⟩
      have lws : ws.length = t + 1 := by rw [paired_len rws, List.length_map, List.length_range]
      have grow := LL_grow (m := m) (n := n) (R := relHas rels) gos t (Nat.le_refl _)
      have fewt := LL_few (R := relHas rels) g.ok g.n1 t
      have small := g.small
      obtain ⟨v, hv⟩ : ∃ v, ws[ws.length - 1]? = some v := ⟨_, List.getElem?_eq_getElem (by omega)⟩
      obtain ⟨L, hL, la, las, rfl, ela, rla, nla⟩ := paired_get rws hv
      have hLt : L = LL m n (relHas rels) t := by
        rw [lws, List.getElem?_map, List.getElem?_range (by omega)] at hL
        exact (Option.some.inj hL).symm
      subst hLt
      refine ⟨_, rfl, _, rfl, ls, _, rfl, .inl (SqL.of els3), _, _, rfl, rfl, ls, _, _, _, rfl, rfl, SqL.of els3, atI_lastn hv, ?_⟩
      intro kd nkd n0 hn0
      have sk := same_upd (o := n0) nkd
      have ela4 := sk _ _ ela
      have els4 := sk _ _ els3
      have rws4 : Paired (LvT ls (upd H3 kd n0)) ws ((List.range (t + 1)).map (LL m n (relHas rels))) := Paired.mapP rws fun _ _ z => z.move (fun a xs _ e => sk _ _ e) (Same.tupS sk)
      have rla4 := refsOf_mono (Same.tupS sk) rla
      have nkd0 : H kd = none := by
        cases hk : H kd with
        | none => rfl
        | some o => rw [s3 _ _ hk] at nkd; cases nkd
      have nlak : la ≠ kd := ne_of_none ela nkd
      have nlsk : ls ≠ kd := ne_of_none els3 nkd
      have s4 := Same.tr s3 sk
      generalize upd H3 kd n0 = H4 at hn0 sk ela4 els4 rws4 rla4 s4 ⊢
      have hr0 : ∀ c ∈ LL m n (relHas rels) t, Reach m n (relHas rels) c := fun c hc => LL_reach hc
      have hN := fun (cs : List Cf) (nd : cs.Nodup) (hr : ∀ c ∈ cs, Reach m n (relHas rels) c) => Nat.le_trans (few_cf nd fun c hc => (hr c hc).ok g.ok g.n1) g.small
      have lla : (las.map V.ref).length = (LL m n (relHas rels) t).length := by rw [List.length_map, ← paired_len rla, List.length_map]
      have hrs : ∀ i, ∀ d ∈ addsC [] (((LL m n (relHas rels) t).take i).flatMap fun c => c :: nx m n (relHas rels) c), Reach m n (relHas rels) d := fun i d hd => by
        rcases addsC_mem.mp hd with hd | hd
        · cases hd
        · obtain ⟨c, hc, hd⟩ := List.mem_flatMap.mp hd
          have hcr := hr0 c (List.mem_of_mem_take hc)
          rcases List.mem_cons.mp hd with rfl | hd
          · exact hcr
          · obtain ⟨pr, hp, rfl⟩ := List.mem_map.mp hd
            exact .step hcr hp
      refine ⟨_, rfl, la, rfl, ⟨_, SqL.of ela4⟩, for_list (K := K) (a := la) (xs := las.map V.ref) (fun i σ H' => (∀ b o, b ≠ kd → H4 b = some o → H' b = some o) ∧ NdAt P w H' kd ((addsC [] (((LL m n (relHas rels) t).take i).flatMap fun c => c :: nx m n (relHas rels) c)).map nk) ∧
        ∃ d e, σ = [some x, some (vInt n), some (.ref rd), some (.ref ls), some (.int (0 + (t : Nat))), some (.ref la), some (.ref kd), d, e]) ⟨fun _ _ _ e => e, by rw [List.take_zero]; exact hn0, _, _, rfl⟩ ?_ ?_ ?_⟩
      · rintro i σ H' hi ⟨k5, _⟩
        exact SqL.of (k5 _ _ nlak ela4)
      · rintro i y σ H5 hy ⟨k5, hk5, d, e, rfl⟩
        have t5 : TupS H4 H5 := fun b ys e => k5 _ _ (by
          obtain ⟨xs, eb, _⟩ := hn0
          exact ne_of e eb (by intro z; cases z)) e
        rw [List.getElem?_map] at hy
        cases ha : las[i]? with
        | none => rw [ha] at hy; cases hy
        | some ca =>
          rw [ha] at hy
          cases hy
          have hi : i < (LL m n (relHas rels) t).length := by
            rw [← lla, List.length_map]
            exact (List.getElem?_eq_some_iff.mp ha).1
          obtain ⟨c, hc⟩ : ∃ c, (LL m n (relHas rels) t)[i]? = some c := ⟨_, List.getElem?_eq_getElem hi⟩
          have kc : KyT H5 (nk c) (.ref ca) := by
            obtain ⟨a', ha', kk⟩ := refs_get rla4 hc
            rw [ha] at ha'
            cases ha'
            exact kk.mono t5
          have hcr := hr0 c (List.mem_of_getElem? hc)
          have few5 := hN _ (addsC_nodup (ks := []) (cs := ((LL m n (relHas rels) t).take i).flatMap fun c => c :: nx m n (relHas rels) c) List.nodup_nil) (hrs i)
          have hadd : addsC [] (((LL m n (relHas rels) t).take (i + 1)).flatMap fun c => c :: nx m n (relHas rels) c) = addsC (addC (addsC [] (((LL m n (relHas rels) t).take i).flatMap fun c => c :: nx m n (relHas rels) c)) c) (nx m n (relHas rels) c) := by
            rw [List.take_add_one, hc, List.flatMap_append, addsC_app]
            simp only [Option.toList_some, List.flatMap_cons, List.flatMap_nil, List.append_nil]
            rfl
          have hr1 := hrs i
          have nd1 : (addsC [] (((LL m n (relHas rels) t).take i).flatMap fun c => c :: nx m n (relHas rels) c)).Nodup := addsC_nodup List.nodup_nil
          rw [hadd]
          generalize addsC [] (((LL m n (relHas rels) t).take i).flatMap fun c => c :: nx m n (relHas rels) c) = ks1 at hk5 few5 hr1 nd1 ⊢
          refine ⟨_, rfl, _, rfl, kd, nk c, _, rfl, ⟨_, rfl⟩, kc, nk_depth _, hk5, by rw [List.length_map, sizeLine_eq]; omega, fun n6 hn6 => ?_⟩
          rw [← nk_addC] at hn6
          have t6 : TupS H5 (upd H5 kd n6) := tupS_upd (fun ys e => by
            obtain ⟨xs, eb, _⟩ := hk5
            rw [eb] at e
            cases e)
          have k6 : ∀ b o, b ≠ kd → H4 b = some o → (upd H5 kd n6) b = some o := fun b o nb e => (upd_ne nb).trans (k5 _ _ nb e)
          have kc6 := kc.mono t6
          generalize upd H5 kd n6 = H6 at hn6 t6 k6 kc6 ⊢
          have nd2 := addC_nodup nd1 c
          have hr2 : ∀ d ∈ addC ks1 c, Reach m n (relHas rels) d := fun d hd => by
            rcases addC_mem.mp hd with hd | rfl
            · exact hr1 d hd
            · exact hcr
          generalize addC ks1 c = ks2 at hn6 nd2 hr2 ⊢
          have s6 : Same H H6 := fun b o e => k6 _ _ (ne_of_none e nkd0) (s4 _ _ e)
          have g6 := g.mono s6
          refine ⟨_, rfl, _, rfl, _, rfl, _, rfl, x, .ref ca, rd, m, n, rels, c, rfl, g6.mv, g.ok, kc6, g6.rl, hcr.ok g.ok g.n1, g.n1, g.sees, g.nd, fun H7 l vs s7 el rl => ?_⟩
          have lv7 : vs.length = (nexts m n (relHas rels) c).length := paired_len rl
          have hk7 := hn6.mono (Same.tupS s7) fun o e => s7 _ _ e
          have nlk : l ≠ kd := by
            obtain ⟨xs, e, _⟩ := hk7
            exact ne_of el e (by intro z; cases z)
          have hr3 : ∀ j, ∀ d ∈ addsC ks2 ((nx m n (relHas rels) c).take j), Reach m n (relHas rels) d := fun j d hd => by
            rcases addsC_mem.mp hd with hd | hd
            · exact hr2 d hd
            · obtain ⟨pr, hp, rfl⟩ := List.mem_map.mp (List.mem_of_mem_take hd)
              exact .step hcr hp
          refine ⟨l, rfl, ⟨_, SqL.of el⟩, for_list (K := K) (a := l) (xs := vs) (fun j σ H8 => (∀ b o, b ≠ kd → H7 b = some o → H8 b = some o) ∧ NdAt P w H8 kd ((addsC ks2 ((nx m n (relHas rels) c).take j)).map nk) ∧
            ∃ e, σ = [some x, some (vInt n), some (.ref rd), some (.ref ls), some (.int (0 + (t : Nat))), some (.ref la), some (.ref kd), some (.ref ca), e]) ⟨fun _ _ _ e => e, by rw [List.take_zero]; exact hk7, _, rfl⟩ ?_ ?_ ?_⟩
          · rintro j σ H8 hj ⟨k8, _⟩
            exact SqL.of (k8 _ _ nlk el)
          · rintro j y σ H8 hy ⟨k8, hk8, e, rfl⟩
            obtain ⟨pr, hpr, ty, kv2, rfl, ety, kk⟩ := paired_get rl hy
            have hd : (nx m n (relHas rels) c)[j]? = some pr.2 := by rw [List.getElem?_map, hpr]; rfl
            have t8 : TupS H7 H8 := fun b' ys e => k8 _ _ (by
              obtain ⟨xs, eb, _⟩ := hk7
              exact ne_of e eb (by intro z; cases z)) e
            have kk8 := kk.mono t8
            obtain ⟨a2, rfl⟩ := kk8.ref
            have hadd2 : addsC ks2 ((nx m n (relHas rels) c).take (j + 1)) = addC (addsC ks2 ((nx m n (relHas rels) c).take j)) pr.2 := foldl_take hd
            have few8 := hN _ (addsC_nodup (cs := (nx m n (relHas rels) c).take j) nd2) (hr3 j)
            rw [hadd2]
            refine ⟨_, rfl, _, rfl, _, _, (1 : Int), _, rfl, rfl, SqT.of (t8 _ _ ety), rfl, kd, nk pr.2, _, rfl, ⟨_, rfl⟩, kk8, nk_depth _, hk8, by rw [List.length_map, sizeLine_eq]; omega, fun n9 hn9 => ?_⟩
            rw [← nk_addC] at hn9
            exact ⟨fun b o nb e => (upd_ne nb).trans (k8 _ _ nb e), hn9, _, rfl⟩
          · rintro σ H8 ⟨k8, hk8, e, rfl⟩
            have ltake : (nx m n (relHas rels) c).take vs.length = nx m n (relHas rels) c := by
              rw [lv7]
              exact List.take_of_length_le (by rw [List.length_map]; exact Nat.le_refl _)
            rw [ltake] at hk8
            exact ⟨fun b o nb e => k8 _ _ nb (s7 _ _ (k6 _ _ nb e)), hk8, _, _, rfl⟩
      · rintro σ H5 ⟨k5, hk5, d, e, rfl⟩
        have hrs := hrs (las.map V.ref).length
        rw [lla, List.take_length] at hk5 hrs
        have nd5 : (addsC [] ((LL m n (relHas rels) t).flatMap fun c => c :: nx m n (relHas rels) c)).Nodup := addsC_nodup List.nodup_nil
        have few5 := hN _ nd5 hrs
        have hstep : sortC (addsC [] ((LL m n (relHas rels) t).flatMap fun c => c :: nx m n (relHas rels) c)) = LL m n (relHas rels) (t + 1) := rfl
        have hlen : (addsC [] ((LL m n (relHas rels) t).flatMap fun c => c :: nx m n (relHas rels) c)).length = (LL m n (relHas rels) (t + 1)).length := by rw [← hstep, sortC_len]
        generalize addsC [] ((LL m n (relHas rels) t).flatMap fun c => c :: nx m n (relHas rels) c) = ks at hk5 hrs nd5 few5 hstep hlen
        have t5 : TupS H4 H5 := fun b ys e => k5 _ _ (by
          obtain ⟨xs, eb, _⟩ := hn0
          exact ne_of e eb (by intro z; cases z)) e
        have els5 := k5 _ _ nlsk els4
        refine ⟨_, rfl, .inl ⟨rfl, _, SqL.of els5⟩, _, rfl, kd, ks.map nk, rfl, hk5, keysOk_nk ks, by rw [List.length_map]; omega, fun sp sas nsp rsp => ?_⟩
        have s6 := same_upd (o := .lst (sas.map V.ref)) nsp
        have e6 : (upd H5 sp (.lst (sas.map V.ref))) sp = _ := upd_same
        have els6 := s6 _ _ els5
        refine ⟨ls, _, _, rfl, rfl, els6, by rw [lws, sizeLine_eq]; omega, ?_⟩
        have nspls : sp ≠ ls := (ne_of_none els5 nsp).symm
        have tp6 : TupS H5 (upd (upd H5 sp (.lst (sas.map V.ref))) ls (.lst (ws ++ [.ref sp]))) := (Same.tupS s6).trans (tupS_upd (fun ys e => by rw [els6] at e; cases e))
        have k6 : ∀ a o, a ≠ ls → H5 a = some o → (upd (upd H5 sp (.lst (sas.map V.ref))) ls (.lst (ws ++ [.ref sp]))) a = some o := fun a o n1 e => (upd_ne n1).trans (s6 _ _ e)
        have els7 : (upd (upd H5 sp (.lst (sas.map V.ref))) ls (.lst (ws ++ [.ref sp]))) ls = _ := upd_same
        have esp7 : (upd (upd H5 sp (.lst (sas.map V.ref))) ls (.lst (ws ++ [.ref sp]))) sp = _ := (upd_ne nspls).trans e6
        generalize upd (upd H5 sp (.lst (sas.map V.ref))) ls (.lst (ws ++ [.ref sp])) = H7 at tp6 k6 els7 esp7 ⊢
        have hk7 := hk5.mono tp6 fun o e => k6 _ _ nlsk.symm e
        have s7 : Same H H7 := fun b o e => k6 _ _ (ne_of_none e nls0) (k5 _ _ (ne_of_none e nkd0) (s4 _ _ e))
        have rws7 : Paired (LvT ls H7) (ws ++ [.ref sp]) ((List.range (t + 1 + 1)).map (LL m n (relHas rels))) := by
          rw [List.range_succ, List.map_append]
          refine Paired.snoc (Paired.mapP rws4 fun v L z => ?_) ⟨sp, sas, rfl, esp7, ?_, nspls⟩
          · refine z.move (fun a xs na e => k6 _ _ na (k5 _ _ ?_ e)) (t5.trans tp6)
            obtain ⟨xs0, eb, _⟩ := hn0
            exact ne_of e eb (by intro z; cases z)
          · rw [← sortC_nk, hstep] at rsp
            exact refsOf_mono tp6 rsp
        refine ⟨_, rfl, kd, _, rfl, hk7, _, rfl, la, _, rfl, .inl (SqL.of (k6 _ _ nla (k5 _ _ nlak ela4))), rfl, _, rfl, ?_⟩
        rw [dec_int, List.length_map, hlen, lla]
        by_cases heq : (LL m n (relHas rels) (t + 1)).length = (LL m n (relHas rels) t).length
        · refine iteTb (by rw [heq]; exact beq_self_eq_true _) ⟨_, rfl, ?_⟩
          exact q H7 ls _ t s7 ⟨heq, gos⟩ nls0 els7 rws7
        · refine iteFb (beq_eq_false_iff_ne.mpr (by omega)) ⟨s7, ⟨_, els7, rws7⟩, fun i hi => ?_, _, _, _, _, _, rfl⟩
          by_cases h : i < t
          · exact gos i h
          · have : i = t := by omega
            subst this
            exact heq
    · rintro σ H3 ⟨s3, ⟨ws, els3, rws⟩, gos, a, b, c, d, e, rfl⟩
      have grow := LL_grow (m := m) (n := n) (R := relHas rels) gos 20002 (Nat.le_refl _)
      have fewt := LL_few (R := relHas rels) g.ok g.n1 20002
      have small := g.small
      omega
def spReaches : Sp := fun vs H Q _ => ∃ (ls : Addr) (ws : List V) (m : Mach) (n : Nat) (R : Nm → List Int → Bool) (r : Nat), vs = [.ref ls] ∧ H ls = some (.lst ws) ∧ Paired (LvT ls H) ws (lvls m n R r) ∧ IsLv m n R r ∧ ∀ b : Bool, (b = true ↔ Accepts m n R) → Q (.bl b) H
theorem sc_L_reaches : FnScope ["_law_levels_here", "_law_here"] ["_law_levels_here"] (defScope s_L_reaches) := ⟨rfl, rfl, rfl, by decide +kernel, rfl, by decide +kernel, by decide +kernel⟩
theorem d_L_reaches (T : Txt w K mg) : Def P w K mg base CX0 1 ("_law_reaches", none) ["_law_levels_here"] (spReaches) := by
  refine Def.of0 (k := 0) T.f_L_reaches sc_L_reaches (fun _ _ _ _ _ _ us hl => match us, hl with | [_], _ => rfl) (fun vs H Q E h => ?_) (fun cdv A outer s H vs Q E hr h => ?_)
  · obtain ⟨ls, ws, m, n, R, r, rfl, _⟩ := h
    rfl
  · obtain ⟨ls, ws, m, n, R, r, rfl, els, rws, hl, q⟩ := h
    refine ⟨_, ((pss_cons (ps_for PassesOwn.never rfl (pi_list (pe_ix ix_list (pv 0) (pe_op op_sub (pe_b call_len_seq T.b_len (pa_cons (pv 0) pa_nil)) pe_int) (fun _ _ => rfl))) (pg_name (i := 1) sc_L_reaches.nd rfl (Or.inl rfl))
       (pss_one (ps_if (pt_cmpR op_eq (pe_ix ix_tup (pv 1) pe_int (fun _ _ => rfl)) pe_int (nomark _))
       (pss_one (ps_ret pe_bl))
       pss_nil)))
       (pss_one (ps_ret pe_bl)))), ?_⟩
    have lws : ws.length = r + 2 := by rw [paired_len rws, List.length_map, List.length_range]
    obtain ⟨v, hv⟩ : ∃ v, ws[ws.length - 1]? = some v := ⟨_, List.getElem?_eq_getElem (by omega)⟩
    obtain ⟨L, hL, la, las, rfl, ela, rla, nla⟩ := paired_get rws hv
    have hLt : L = LL m n R (r + 1) := by
      rw [lws, List.getElem?_map, List.getElem?_range (by omega)] at hL
      exact (Option.some.inj hL).symm
    subst hLt
    have lla : (las.map V.ref).length = (LL m n R (r + 1)).length := by rw [List.length_map, ← paired_len rla, List.length_map]
    refine ⟨_, rfl, _, rfl, ls, _, rfl, .inl (SqL.of els), _, _, rfl, rfl, ls, _, _, _, rfl, rfl, SqL.of els, atI_lastn hv, la, rfl, ⟨_, SqL.of ela⟩, for_list (K := K) (a := la) (xs := las.map V.ref) (fun i σ H' => H' = H ∧ (∀ c ∈ (LL m n R (r + 1)).take i, c.1 ≠ 1) ∧ ∃ v, σ = [some (.ref ls), v]) ⟨rfl, (fun c hc => by rw [List.take_zero] at hc; exact nomatch hc), _, rfl⟩ ?_ ?_ ?_⟩
    · rintro i σ H' hi ⟨rfl, _⟩
      exact SqL.of ela
    · rintro i y σ H' hy ⟨rfl, hn, v, rfl⟩
      rw [List.getElem?_map] at hy
      cases ha : las[i]? with
      | none => rw [ha] at hy; cases hy
      | some ca =>
        rw [ha] at hy
        cases hy
        have hi : i < (LL m n R (r + 1)).length := by
          rw [← lla, List.length_map]
          exact (List.getElem?_eq_some_iff.mp ha).1
        obtain ⟨c, hc⟩ : ∃ c, (LL m n R (r + 1))[i]? = some c := ⟨_, List.getElem?_eq_getElem hi⟩
        obtain ⟨a', ha', kk⟩ := refs_get rla hc
        rw [ha] at ha'
        cases ha'
        obtain ⟨_, h1, m1, e, ea, _, _⟩ := cf_inv kk
        cases e
        refine ⟨_, rfl, _, _, (0 : Int), _, rfl, rfl, SqT.of ea, rfl, rfl, _, rfl, ?_⟩
        rw [dec_int]
        by_cases h1 : c.1 = 1
        · refine iteTb (by rw [h1]; rfl) (q true ⟨fun _ => ⟨c, LL_reach (List.mem_of_getElem? hc), h1⟩, fun _ => rfl⟩)
        · refine iteFb (beq_eq_false_iff_ne.mpr (by omega)) ⟨rfl, fun d hd => ?_, _, rfl⟩
          rw [List.take_add_one, hc, List.mem_append] at hd
          rcases hd with hd | hd
          · exact hn d hd
          · rw [List.mem_singleton.mp hd]
            exact h1
    · rintro σ H' ⟨rfl, hn, v, rfl⟩
      rw [lla, List.take_length] at hn
      refine q false ⟨fun z => (nomatch z), ?_⟩
      rintro ⟨c, hc, h1⟩
      exact absurd h1 (hn c (LL_up (LL_all hl.stop hc)))
end K54
set_option Elab.async false
set_option linter.all false
set_option maxRecDepth 100000
set_option maxHeartbeats 4000000
set_option pp.maxSteps 800
namespace K54
open PySem PySem.Spec PyProof.Rows L2
variable {P : Program} {w : World} {K : PySem.W.Frag} {mg : Str → Option Value} {base : Heap}
def SqA (H : Hp) (a : Addr) (xs : List V) : Prop := H a = some (.lst xs) ∨ H a = some (.tup xs)
theorem SqA.sq {H : Hp} {a : Addr} {xs : List V} (h : SqA H a xs) : SqL K H a xs ∨ SqT K H a xs := by
  rcases h with h | h
  · exact .inl (SqL.of h)
  · exact .inr (SqT.of h)
mutual
def wdB : PyData → Bool
  | .list ds => decide (ds.length ≤ 10000) && wdBs ds
  | .tuple ds => decide (ds.length ≤ 10000) && wdBs ds
  | .dict _ => false
  | .none => true
  | .bool _ => true
  | .int _ => true
  | .str _ => true
def wdBs : List PyData → Bool
  | [] => true
  | d :: ds => wdB d && wdBs ds
end
theorem wdBs_at {es : List PyData} {i : Nat} {e : PyData} (h : es[i]? = some e) (hd : wdBs es = true) : wdB e = true := by
  induction es generalizing i with
  | nil => rw [List.getElem?_nil] at h; cases h
  | cons x es ih =>
    rw [wdBs, Bool.and_eq_true] at hd
    cases i with
    | zero =>
      rw [List.getElem?_cons_zero] at h
      cases h
      exact hd.1
    | succ i =>
      rw [List.getElem?_cons_succ] at h
      exact ih h hd.2
def spEq (D : Nat) : Sp := fun vs H Q _ => ∃ (x y : V) (d e : PyData), vs = [x, y] ∧ Dv H x d ∧ Dv H y e ∧ e.depth ≤ D ∧ wdB e = true ∧ ∀ b : Bool, (b = true ↔ d = e) → Q (.bl b) H
def spAllEq (D : Nat) : Sp := fun vs H Q _ => ∃ (a b : Addr) (xs ys : List V) (ds es : List PyData), vs = [.ref a, .ref b] ∧ SqA H a xs ∧ SqA H b ys ∧ DvAll H xs ds ∧ DvAll H ys es ∧ ds.length = es.length ∧ PyData.depthAll es ≤ D ∧ es.length ≤ 10000 ∧ wdBs es = true ∧ ∀ b : Bool, (b = true ↔ ds = es) → Q (.bl b) H
theorem depthAll_at {es : List PyData} {i : Nat} {e : PyData} (h : es[i]? = some e) {D : Nat} (hd : PyData.depthAll es ≤ D) : e.depth ≤ D := by
  induction es generalizing i with
  | nil => rw [List.getElem?_nil] at h; cases h
  | cons x es ih =>
    rw [PyData.depthAll] at hd
    have := Nat.max_le.mp hd
    cases i with
    | zero =>
      rw [List.getElem?_cons_zero] at h
      cases h
      exact this.1
    | succ i =>
      rw [List.getElem?_cons_succ] at h
      exact ih h this.2
theorem sc_L_equal : FnScope ["_law_actual", "_law_due"] ["_law_actual", "_law_due"] (defScope s_L_equal) := ⟨rfl, rfl, rfl, by decide +kernel, rfl, by decide +kernel, by decide +kernel⟩
theorem sc_L_all_equal : FnScope ["_law_actual", "_law_due", "_law_k"] ["_law_actual", "_law_due"] (defScope s_L_all_equal) := ⟨rfl, rfl, rfl, by decide +kernel, rfl, by decide +kernel, by decide +kernel⟩
theorem seqT {T : String} (hT : T = "list" ∨ T = "tuple") : True := trivial
theorem d_L_equal0 (T : Txt w K mg) : Def P w K mg base CX0 2 ("_law_equal", none) ["_law_actual", "_law_due"] (spEq 0) := by
  refine Def.of0 (k := 1) T.f_L_equal sc_L_equal (fun _ _ _ _ _ _ us hl => match us, hl with | [_, _], _ => rfl) (fun vs H Q E h => ?_) (fun cdv A outer s H vs Q E hr h => ?_)
  · obtain ⟨x, y, d, e, rfl, _⟩ := h
    rfl
  · obtain ⟨x, y, d, e, rfl, hx, hy, hde, hwd, q⟩ := h
    refine ⟨_, ((pss_cons (ps_if (pt_val (pe_b call_isD T.b_isinstance (pa_cons (pv 1) (pa_cons (pe_tyv (T := "list") T.b_list) pa_nil))))
       (pss_cons (ps_if (PW.pt (pw_or (pt_not (pt_val (pe_b call_isD T.b_isinstance (pa_cons (pv 0) (pa_cons (pe_tyv (T := "list") T.b_list) pa_nil))))) (pw_or1 (pt_cmpR op_ne (pe_b call_len_seq T.b_len (pa_cons (pv 0) pa_nil)) (pe_b call_len_seq T.b_len (pa_cons (pv 1) pa_nil)) (nomark _)))))
       (pss_one (ps_ret pe_bl))
       pss_nil)
       (pss_one (ps_ret pe_no)))
       pss_nil)
       (pss_cons (ps_if (pt_val (pe_b call_isD T.b_isinstance (pa_cons (pv 1) (pa_cons (pe_tyv (T := "tuple") T.b_tuple) pa_nil))))
       (pss_cons (ps_if (PW.pt (pw_or (pt_not (pt_val (pe_b call_isD T.b_isinstance (pa_cons (pv 0) (pa_cons (pe_tyv (T := "tuple") T.b_tuple) pa_nil))))) (pw_or1 (pt_cmpR op_ne (pe_b call_len_seq T.b_len (pa_cons (pv 0) pa_nil)) (pe_b call_len_seq T.b_len (pa_cons (pv 1) pa_nil)) (nomark _)))))
       (pss_one (ps_ret pe_bl))
       pss_nil)
       (pss_one (ps_ret pe_no)))
       pss_nil)
       (pss_cons (ps_if (pt_val (pe_b call_isD T.b_isinstance (pa_cons (pv 1) (pa_cons (pe_tyv (T := "bool") T.b_bool) pa_nil))))
       (pss_one (ps_ret (pe_and (pe_b call_isD T.b_isinstance (pa_cons (pv 0) (pa_cons (pe_tyv (T := "bool") T.b_bool) pa_nil))) (pe_one (pe_cmpR op_eq (pv 0) (pv 1) (nomark _))))))
       pss_nil)
       (pss_cons (ps_if (pt_val (pe_b call_isD T.b_isinstance (pa_cons (pv 1) (pa_cons (pe_tyv (T := "int") T.b_int) pa_nil))))
       (pss_one (ps_ret (pe_and (pe_b call_isD T.b_isinstance (pa_cons (pv 0) (pa_cons (pe_tyv (T := "int") T.b_int) pa_nil))) (pe_and (pe_not (pe_b call_isD T.b_isinstance (pa_cons (pv 0) (pa_cons (pe_tyv (T := "bool") T.b_bool) pa_nil)))) (pe_one (pe_cmpR op_eq (pv 0) (pv 1) (nomark _)))))))
       pss_nil)
       (pss_cons (ps_if (pt_val (pe_b call_isD T.b_isinstance (pa_cons (pv 1) (pa_cons (pe_tyv (T := "str") T.b_str) pa_nil))))
       (pss_one (ps_ret (pe_and (pe_b call_isD T.b_isinstance (pa_cons (pv 0) (pa_cons (pe_tyv (T := "str") T.b_str) pa_nil))) (pe_one (pe_cmpR op_eq (pv 0) (pv 1) (nomark _))))))
       pss_nil)
       (pss_one (ps_ret (pe_cmpR op_isN (pv 0) pe_non (nomark _)))))))))), ?_⟩
    refine ⟨_, rfl, y, e, "list", rfl, by decide, hy, _, rfl, ?_⟩
    cases hy with
    | @lst b ys es e2 r2 =>
      refine iteTb rfl ⟨_, rfl, x, d, "list", rfl, by decide, hx, _, rfl, ?_⟩
      cases hx with
      | @lst a xs ds e1 r1 =>
        refine iteF ⟨_, rfl, a, xs, rfl, .inl (SqL.of e1), _, rfl, b, ys, rfl, .inl (SqL.of e2), rfl, _, rfl, ?_⟩
        have l1 := r1.len
        have l2 := r2.len
        by_cases hl : ds.length = es.length
        · refine iteFb (by rw [dec_int, l1, l2, hl, beq_self_eq_true]; rfl) ?_
          exfalso
          rw [PyData.depth] at hde
          omega
        · refine iteTb (by rw [dec_int, l1, l2, beq_eq_false_iff_ne.mpr (by omega)]; rfl) (q false ⟨(fun z => nomatch z), fun z => ?_⟩)
          cases z
          exact absurd rfl hl
      | _ => exact iteTb rfl (q false ⟨(fun z => nomatch z), (fun z => nomatch z)⟩)
    | @tup b ys es e2 r2 =>
      refine iteFb rfl ⟨_, rfl, _, _, "tuple", rfl, by decide, .tup e2 r2, _, rfl, iteTb rfl ?_⟩
      refine ⟨_, rfl, x, d, "tuple", rfl, by decide, hx, _, rfl, ?_⟩
      cases hx with
      | @tup a xs ds e1 r1 =>
        refine iteF ⟨_, rfl, a, xs, rfl, .inr (SqT.of e1), _, rfl, b, ys, rfl, .inr (SqT.of e2), rfl, _, rfl, ?_⟩
        have l1 := r1.len
        have l2 := r2.len
        by_cases hl : ds.length = es.length
        · refine iteFb (by rw [dec_int, l1, l2, hl, beq_self_eq_true]; rfl) ?_
          exfalso
          rw [PyData.depth] at hde
          omega
        · refine iteTb (by rw [dec_int, l1, l2, beq_eq_false_iff_ne.mpr (by omega)]; rfl) (q false ⟨(fun z => nomatch z), fun z => ?_⟩)
          cases z
          exact absurd rfl hl
      | _ => exact iteTb rfl (q false ⟨(fun z => nomatch z), (fun z => nomatch z)⟩)
    | bl v =>
      refine iteFb rfl ⟨_, rfl, _, _, "tuple", rfl, by decide, .bl v, _, rfl, iteFb rfl ?_⟩
      refine ⟨_, rfl, _, _, "bool", rfl, by decide, .bl v, _, rfl, iteTb rfl ?_⟩
      refine ⟨_, rfl, x, d, "bool", rfl, by decide, hx, _, rfl, ?_⟩
      cases hx with
      | bl u => exact ⟨_, rfl, _, rfl, rfl, q _ ⟨fun z => by rw [V.bl.inj (of_decide_eq_true z)], fun z => by cases z; exact decide_eq_true rfl⟩⟩
      | _ => exact q false ⟨(fun z => nomatch z), (fun z => nomatch z)⟩
    | int v =>
      refine iteFb rfl ⟨_, rfl, _, _, "tuple", rfl, by decide, .int v, _, rfl, iteFb rfl ?_⟩
      refine ⟨_, rfl, _, _, "bool", rfl, by decide, .int v, _, rfl, iteFb rfl ?_⟩
      refine ⟨_, rfl, _, _, "int", rfl, by decide, .int v, _, rfl, iteTb rfl ?_⟩
      refine ⟨_, rfl, x, d, "int", rfl, by decide, hx, _, rfl, ?_⟩
      cases hx with
      | int u => exact ⟨_, rfl, _, _, "bool", rfl, by decide, .int u, _, rfl, _, rfl, _, rfl, _, rfl, rfl, q _ ⟨fun z => by rw [V.int.inj (of_decide_eq_true z)], fun z => by cases z; exact decide_eq_true rfl⟩⟩
      | bl u => exact ⟨_, rfl, _, _, "bool", rfl, by decide, .bl u, _, rfl, _, rfl, q false ⟨(fun z => nomatch z), (fun z => nomatch z)⟩⟩
      | _ => exact q false ⟨(fun z => nomatch z), (fun z => nomatch z)⟩
    | str v =>
      refine iteFb rfl ⟨_, rfl, _, _, "tuple", rfl, by decide, .str v, _, rfl, iteFb rfl ?_⟩
      refine ⟨_, rfl, _, _, "bool", rfl, by decide, .str v, _, rfl, iteFb rfl ?_⟩
      refine ⟨_, rfl, _, _, "int", rfl, by decide, .str v, _, rfl, iteFb rfl ?_⟩
      refine ⟨_, rfl, _, _, "str", rfl, by decide, .str v, _, rfl, iteTb rfl ?_⟩
      refine ⟨_, rfl, x, d, "str", rfl, by decide, hx, _, rfl, ?_⟩
      cases hx with
      | str u => exact ⟨_, rfl, _, rfl, rfl, q _ ⟨fun z => by rw [V.str.inj (of_decide_eq_true z)], fun z => by cases z; exact decide_eq_true rfl⟩⟩
      | _ => exact q false ⟨(fun z => nomatch z), (fun z => nomatch z)⟩
    | non =>
      refine iteFb rfl ⟨_, rfl, _, _, "tuple", rfl, by decide, .non, _, rfl, iteFb rfl ?_⟩
      refine ⟨_, rfl, _, _, "bool", rfl, by decide, .non, _, rfl, iteFb rfl ?_⟩
      refine ⟨_, rfl, _, _, "int", rfl, by decide, .non, _, rfl, iteFb rfl ?_⟩
      refine ⟨_, rfl, _, _, "str", rfl, by decide, .non, _, rfl, iteFb rfl ?_⟩
      refine ⟨_, rfl, rfl, q _ ⟨fun z => ?_, fun z => ?_⟩⟩
      · have z := of_decide_eq_true z
        cases hx <;> first
          | rfl
          | exact nomatch z
      · cases hx <;> first
          | rfl
          | exact nomatch z
theorem d_L_equalS (T : Txt w K mg) {D j k : Nat} (hjk : j ≤ k) (dA : Def P w K mg base CX0 j ("_law_all_equal", none) ["_law_actual", "_law_due"] (spAllEq D)) : Def P w K mg base CX0 (k + 1) ("_law_equal", none) ["_law_actual", "_law_due"] (spEq (D + 1)) := by
  refine Def.of0 (k := k) T.f_L_equal sc_L_equal (fun _ _ _ _ _ _ us hl => match us, hl with | [_, _], _ => rfl) (fun vs H Q E h => ?_) (fun cdv A outer s H vs Q E hr h => ?_)
  · obtain ⟨x, y, d, e, rfl, _⟩ := h
    rfl
  · obtain ⟨x, y, d, e, rfl, hx, hy, hde, hwd, q⟩ := h
    refine ⟨_, ((pss_cons (ps_if (pt_val (pe_b call_isD T.b_isinstance (pa_cons (pv 1) (pa_cons (pe_tyv (T := "list") T.b_list) pa_nil))))
       (pss_cons (ps_if (PW.pt (pw_or (pt_not (pt_val (pe_b call_isD T.b_isinstance (pa_cons (pv 0) (pa_cons (pe_tyv (T := "list") T.b_list) pa_nil))))) (pw_or1 (pt_cmpR op_ne (pe_b call_len_seq T.b_len (pa_cons (pv 0) pa_nil)) (pe_b call_len_seq T.b_len (pa_cons (pv 1) pa_nil)) (nomark _)))))
       (pss_one (ps_ret pe_bl))
       pss_nil)
       (pss_one (ps_ret (pe_f dA (hr.mono (by omega)) T.g_L_all_equal pass0 (pa_cons (pv 0) (pa_cons (pv 1) pa_nil))))))
       pss_nil)
       (pss_cons (ps_if (pt_val (pe_b call_isD T.b_isinstance (pa_cons (pv 1) (pa_cons (pe_tyv (T := "tuple") T.b_tuple) pa_nil))))
       (pss_cons (ps_if (PW.pt (pw_or (pt_not (pt_val (pe_b call_isD T.b_isinstance (pa_cons (pv 0) (pa_cons (pe_tyv (T := "tuple") T.b_tuple) pa_nil))))) (pw_or1 (pt_cmpR op_ne (pe_b call_len_seq T.b_len (pa_cons (pv 0) pa_nil)) (pe_b call_len_seq T.b_len (pa_cons (pv 1) pa_nil)) (nomark _)))))
       (pss_one (ps_ret pe_bl))
       pss_nil)
       (pss_one (ps_ret (pe_f dA (hr.mono (by omega)) T.g_L_all_equal pass0 (pa_cons (pv 0) (pa_cons (pv 1) pa_nil))))))
       pss_nil)
       (pss_cons (ps_if (pt_val (pe_b call_isD T.b_isinstance (pa_cons (pv 1) (pa_cons (pe_tyv (T := "bool") T.b_bool) pa_nil))))
       (pss_one (ps_ret (pe_and (pe_b call_isD T.b_isinstance (pa_cons (pv 0) (pa_cons (pe_tyv (T := "bool") T.b_bool) pa_nil))) (pe_one (pe_cmpR op_eq (pv 0) (pv 1) (nomark _))))))
       pss_nil)
       (pss_cons (ps_if (pt_val (pe_b call_isD T.b_isinstance (pa_cons (pv 1) (pa_cons (pe_tyv (T := "int") T.b_int) pa_nil))))
       (pss_one (ps_ret (pe_and (pe_b call_isD T.b_isinstance (pa_cons (pv 0) (pa_cons (pe_tyv (T := "int") T.b_int) pa_nil))) (pe_and (pe_not (pe_b call_isD T.b_isinstance (pa_cons (pv 0) (pa_cons (pe_tyv (T := "bool") T.b_bool) pa_nil)))) (pe_one (pe_cmpR op_eq (pv 0) (pv 1) (nomark _)))))))
       pss_nil)
       (pss_cons (ps_if (pt_val (pe_b call_isD T.b_isinstance (pa_cons (pv 1) (pa_cons (pe_tyv (T := "str") T.b_str) pa_nil))))
       (pss_one (ps_ret (pe_and (pe_b call_isD T.b_isinstance (pa_cons (pv 0) (pa_cons (pe_tyv (T := "str") T.b_str) pa_nil))) (pe_one (pe_cmpR op_eq (pv 0) (pv 1) (nomark _))))))
       pss_nil)
       (pss_one (ps_ret (pe_cmpR op_isN (pv 0) pe_non (nomark _)))))))))), ?_⟩
    refine ⟨_, rfl, y, e, "list", rfl, by decide, hy, _, rfl, ?_⟩
    cases hy with
    | @lst b ys es e2 r2 =>
      refine iteTb rfl ⟨_, rfl, x, d, "list", rfl, by decide, hx, _, rfl, ?_⟩
      cases hx with
      | @lst a xs ds e1 r1 =>
        refine iteF ⟨_, rfl, a, xs, rfl, .inl (SqL.of e1), _, rfl, b, ys, rfl, .inl (SqL.of e2), rfl, _, rfl, ?_⟩
        have l1 := r1.len
        have l2 := r2.len
        by_cases hl : ds.length = es.length
        · refine iteFb (by rw [dec_int, l1, l2, hl, beq_self_eq_true]; rfl) ?_
          refine ⟨_, rfl, _, rfl, a, b, xs, ys, ds, es, rfl, .inl e1, .inl e2, r1, r2, hl, ?_, ?_, ?_, fun bb hbb => q bb ⟨fun z => by rw [hbb.mp z], fun z => hbb.mpr (by cases z; rfl)⟩⟩
          · rw [PyData.depth] at hde
            omega
          · rw [wdB, Bool.and_eq_true, decide_eq_true_eq] at hwd
            exact hwd.1
          · rw [wdB, Bool.and_eq_true] at hwd
            exact hwd.2
        · refine iteTb (by rw [dec_int, l1, l2, beq_eq_false_iff_ne.mpr (by omega)]; rfl) (q false ⟨(fun z => nomatch z), fun z => ?_⟩)
          cases z
          exact absurd rfl hl
      | _ => exact iteTb rfl (q false ⟨(fun z => nomatch z), (fun z => nomatch z)⟩)
    | @tup b ys es e2 r2 =>
      refine iteFb rfl ⟨_, rfl, _, _, "tuple", rfl, by decide, .tup e2 r2, _, rfl, iteTb rfl ?_⟩
      refine ⟨_, rfl, x, d, "tuple", rfl, by decide, hx, _, rfl, ?_⟩
      cases hx with
      | @tup a xs ds e1 r1 =>
        refine iteF ⟨_, rfl, a, xs, rfl, .inr (SqT.of e1), _, rfl, b, ys, rfl, .inr (SqT.of e2), rfl, _, rfl, ?_⟩
        have l1 := r1.len
        have l2 := r2.len
        by_cases hl : ds.length = es.length
        · refine iteFb (by rw [dec_int, l1, l2, hl, beq_self_eq_true]; rfl) ?_
          refine ⟨_, rfl, _, rfl, a, b, xs, ys, ds, es, rfl, .inr e1, .inr e2, r1, r2, hl, ?_, ?_, ?_, fun bb hbb => q bb ⟨fun z => by rw [hbb.mp z], fun z => hbb.mpr (by cases z; rfl)⟩⟩
          · rw [PyData.depth] at hde
            omega
          · rw [wdB, Bool.and_eq_true, decide_eq_true_eq] at hwd
            exact hwd.1
          · rw [wdB, Bool.and_eq_true] at hwd
            exact hwd.2
        · refine iteTb (by rw [dec_int, l1, l2, beq_eq_false_iff_ne.mpr (by omega)]; rfl) (q false ⟨(fun z => nomatch z), fun z => ?_⟩)
          cases z
          exact absurd rfl hl
      | _ => exact iteTb rfl (q false ⟨(fun z => nomatch z), (fun z => nomatch z)⟩)
    | bl v =>
      refine iteFb rfl ⟨_, rfl, _, _, "tuple", rfl, by decide, .bl v, _, rfl, iteFb rfl ?_⟩
      refine ⟨_, rfl, _, _, "bool", rfl, by decide, .bl v, _, rfl, iteTb rfl ?_⟩
      refine ⟨_, rfl, x, d, "bool", rfl, by decide, hx, _, rfl, ?_⟩
      cases hx with
      | bl u => exact ⟨_, rfl, _, rfl, rfl, q _ ⟨fun z => by rw [V.bl.inj (of_decide_eq_true z)], fun z => by cases z; exact decide_eq_true rfl⟩⟩
      | _ => exact q false ⟨(fun z => nomatch z), (fun z => nomatch z)⟩
    | int v =>
      refine iteFb rfl ⟨_, rfl, _, _, "tuple", rfl, by decide, .int v, _, rfl, iteFb rfl ?_⟩
      refine ⟨_, rfl, _, _, "bool", rfl, by decide, .int v, _, rfl, iteFb rfl ?_⟩
      refine ⟨_, rfl, _, _, "int", rfl, by decide, .int v, _, rfl, iteTb rfl ?_⟩
      refine ⟨_, rfl, x, d, "int", rfl, by decide, hx, _, rfl, ?_⟩
      cases hx with
      | int u => exact ⟨_, rfl, _, _, "bool", rfl, by decide, .int u, _, rfl, _, rfl, _, rfl, _, rfl, rfl, q _ ⟨fun z => by rw [V.int.inj (of_decide_eq_true z)], fun z => by cases z; exact decide_eq_true rfl⟩⟩
      | bl u => exact ⟨_, rfl, _, _, "bool", rfl, by decide, .bl u, _, rfl, _, rfl, q false ⟨(fun z => nomatch z), (fun z => nomatch z)⟩⟩
      | _ => exact q false ⟨(fun z => nomatch z), (fun z => nomatch z)⟩
    | str v =>
      refine iteFb rfl ⟨_, rfl, _, _, "tuple", rfl, by decide, .str v, _, rfl, iteFb rfl ?_⟩
      refine ⟨_, rfl, _, _, "bool", rfl, by decide, .str v, _, rfl, iteFb rfl ?_⟩
      refine ⟨_, rfl, _, _, "int", rfl, by decide, .str v, _, rfl, iteFb rfl ?_⟩
      refine ⟨_, rfl, _, _, "str", rfl, by decide, .str v, _, rfl, iteTb rfl ?_⟩
      refine ⟨_, rfl, x, d, "str", rfl, by decide, hx, _, rfl, ?_⟩
      cases hx with
      | str u => exact ⟨_, rfl, _, rfl, rfl, q _ ⟨fun z => by rw [V.str.inj (of_decide_eq_true z)], fun z => by cases z; exact decide_eq_true rfl⟩⟩
      | _ => exact q false ⟨(fun z => nomatch z), (fun z => nomatch z)⟩
    | non =>
      refine iteFb rfl ⟨_, rfl, _, _, "tuple", rfl, by decide, .non, _, rfl, iteFb rfl ?_⟩
      refine ⟨_, rfl, _, _, "bool", rfl, by decide, .non, _, rfl, iteFb rfl ?_⟩
      refine ⟨_, rfl, _, _, "int", rfl, by decide, .non, _, rfl, iteFb rfl ?_⟩
      refine ⟨_, rfl, _, _, "str", rfl, by decide, .non, _, rfl, iteFb rfl ?_⟩
      refine ⟨_, rfl, rfl, q _ ⟨fun z => ?_, fun z => ?_⟩⟩
      · have z := of_decide_eq_true z
        cases hx <;> first
          | rfl
          | exact nomatch z
      · cases hx <;> first
          | rfl
          | exact nomatch z
theorem d_L_all_equalS (T : Txt w K mg) {D j k : Nat} (hjk : j ≤ k) (dE : Def P w K mg base CX0 j ("_law_equal", none) ["_law_actual", "_law_due"] (spEq D)) : Def P w K mg base CX0 (k + 1) ("_law_all_equal", none) ["_law_actual", "_law_due"] (spAllEq D) := by
  refine Def.of0 (k := k) T.f_L_all_equal sc_L_all_equal (fun _ _ _ _ _ _ us hl => match us, hl with | [_, _], _ => rfl) (fun vs H Q E h => ?_) (fun cdv A outer s H vs Q E hr h => ?_)
  · obtain ⟨a, b, xs, ys, ds, es, rfl, _⟩ := h
    rfl
  · obtain ⟨a, b, xs, ys, ds, es, rfl, ea, eb, r1, r2, hl, hde, hlen, hwd, q⟩ := h
    refine ⟨_, ((pss_cons (ps_for PassesOwn.never rfl (pi_range1 (by rfl) T.b_range (pa_cons (pe_b call_len_seq T.b_len (pa_cons (pv 1) pa_nil)) pa_nil)) (pg_name (i := 2) sc_L_all_equal.nd rfl (Or.inl rfl))
       (pss_one (ps_if (pt_not (pt_val (pe_f dE (hr.mono (by omega)) T.g_L_equal pass0 (pa_cons (pe_ix ix_seq (pv 0) (pv 2) (fun _ _ => rfl)) (pa_cons (pe_ix ix_seq (pv 1) (pv 2) (fun _ _ => rfl)) pa_nil)))))
       (pss_one (ps_ret pe_bl))
       pss_nil)))
       (pss_one (ps_ret pe_bl)))), ?_⟩
    have l1 := r1.len
    have l2 := r2.len
    refine ⟨_, rfl, b, ys, rfl, eb.sq, ys.length, rfl, by omega, by omega, for_range (n := ys.length) (fun i σ H' => H' = H ∧ ds.take i = es.take i ∧ ∃ v, σ = [some (.ref a), some (.ref b), v]) ⟨rfl, rfl, _, rfl⟩ ?_ ?_⟩
    · rintro i σ H' hi ⟨rfl, hte, v, rfl⟩
      obtain ⟨y, hy⟩ : ∃ y, ys[i]? = some y := ⟨_, List.getElem?_eq_getElem hi⟩
      obtain ⟨x, hx⟩ : ∃ x, xs[i]? = some x := ⟨_, List.getElem?_eq_getElem (by omega)⟩
      obtain ⟨e, he, re⟩ := r2.at hy
      obtain ⟨d, hd, rd⟩ := r1.at hx
      have ax : ∀ (Q' : VK), Q' x H' → rIx K (.ref a) (.int (0 + (i : Nat))) H' Q' := fun Q' h => by
        rw [Int.zero_add]
        rcases ea with ea | ea
        · exact .inl ⟨a, _, _, _, rfl, rfl, SqL.of ea, atI_nat hx, h⟩
        · exact .inr (.inl ⟨a, _, _, _, rfl, rfl, SqT.of ea, atI_nat hx, h⟩)
      have ay : ∀ (Q' : VK), Q' y H' → rIx K (.ref b) (.int (0 + (i : Nat))) H' Q' := fun Q' h => by
        rw [Int.zero_add]
        rcases eb with eb | eb
        · exact .inl ⟨b, _, _, _, rfl, rfl, SqL.of eb, atI_nat hy, h⟩
        · exact .inr (.inl ⟨b, _, _, _, rfl, rfl, SqT.of eb, atI_nat hy, h⟩)
      refine ⟨_, rfl, _, rfl, ax _ ⟨_, rfl, _, rfl, ay _ ⟨x, y, d, e, rfl, rd, re, depthAll_at he hde, wdBs_at he hwd, fun bb hbb => ⟨_, rfl, ?_⟩⟩⟩⟩
      cases bb with
      | true =>
        refine iteFb rfl ⟨rfl, ?_, _, rfl⟩
        rw [List.take_add_one, List.take_add_one, hd, he, hte, hbb.mp rfl]
      | false =>
        refine iteTb rfl (q false ⟨(fun z => nomatch z), fun z => ?_⟩)
        subst z
        rw [hd] at he
        cases he
        exact nomatch hbb.mpr rfl
    · rintro σ H' ⟨rfl, hte, v, rfl⟩
      refine q true ⟨fun _ => ?_, fun _ => rfl⟩
      rw [l2, List.take_length, ← hl, List.take_length] at hte
      exact hte
theorem d_L_equal4 (T : Txt w K mg) : Def P w K mg base CX0 10 ("_law_equal", none) ["_law_actual", "_law_due"] (spEq 4) := by
  have a0 := d_L_all_equalS (k := 2) T (by decide) (d_L_equal0 (P := P) (base := base) T)
  have e1 := d_L_equalS (k := 3) T (by decide) a0
  have a1 := d_L_all_equalS (k := 4) T (by decide) e1
  have e2 := d_L_equalS (k := 5) T (by decide) a1
  have a2 := d_L_all_equalS (k := 6) T (by decide) e2
  have e3 := d_L_equalS (k := 7) T (by decide) a2
  have a3 := d_L_all_equalS (k := 8) T (by decide) e3
  exact d_L_equalS (k := 9) T (by decide) a3
end K54
set_option Elab.async false
set_option linter.all false
set_option maxRecDepth 100000
set_option maxHeartbeats 4000000
set_option pp.maxSteps 800
namespace K54
open PySem PySem.Spec PyProof.Rows L2
variable {P : Program} {w : World} {K : PySem.W.Frag} {mg : Str → Option Value} {base : Heap}
def ItO (H : Hp) (v : V) : Prop := ∃ e, Dv H v e ∧ LayN 2 e
def LvO (H : Hp) (v : V) : Prop := ∃ a ys, v = .ref a ∧ (H a = some (.lst ys) ∨ H a = some (.tup ys)) ∧ ys.length ≤ 100 ∧ ∀ y ∈ ys, ItO H y
def LsO (H : Hp) (l : Addr) : Prop := ∃ zs, H l = some (.lst zs) ∧ zs.length ≤ 100 ∧ ∀ z ∈ zs, LvO H z
theorem ItO.mono {H H' : Hp} {v : V} (h : ItO H v) (s : Same H H') : ItO H' v :=
  let ⟨e, a, b⟩ := h
  ⟨e, a.mono s, b⟩
theorem LvO.mono {H H' : Hp} {v : V} (h : LvO H v) (s : Same H H') : LvO H' v :=
  let ⟨a, ys, e, h1, h2, h3⟩ := h
  ⟨a, ys, e, h1.imp (s _ _) (s _ _), h2, fun y hy => (h3 y hy).mono s⟩
theorem LsO.mono {H H' : Hp} {l : Addr} (h : LsO H l) (s : Same H H') : LsO H' l :=
  let ⟨zs, e, h2, h3⟩ := h
  ⟨zs, s _ _ e, h2, fun z hz => (h3 z hz).mono s⟩
theorem layN_cf (c : Cf) : LayN 2 (cfD c) := by
  unfold cfD
  refine .tuple fun x hx => ?_
  simp only [List.mem_cons, List.not_mem_nil, or_false] at hx
  rcases hx with rfl | rfl | rfl
  · exact .int _
  · refine .tuple fun x hx => ?_
    obtain ⟨i, _, rfl⟩ := List.mem_map.mp hx
    exact .int _
  · exact LayN.tuple (n := 0) (fun x hx => by cases hx)
theorem kyT_ito {H : Hp} {c : Cf} {v : V} (k : KyT H (nk c) v) : ItO H v := by
  have := k.dv
  rw [nk_data] at this
  exact ⟨_, this, layN_cf c⟩
theorem refs_ito {H : Hp} {ks : List NestedKey} {as : List Addr} (r : RefsOf H ks as) (h : ∀ k ∈ ks, ∃ c, k = nk c) : ∀ y ∈ as.map V.ref, ItO H y := by
  induction r with
  | nil => exact fun y hy => (nomatch hy)
  | cons z t ih =>
    intro y hy
    rw [List.map_cons] at hy
    rcases List.mem_cons.mp hy with rfl | hy
    · obtain ⟨c, rfl⟩ := h _ List.mem_cons_self
      exact kyT_ito z
    · exact ih (fun k hk => h k (List.mem_cons_of_mem _ hk)) y hy
theorem nks_of : ∀ {ks : List NestedKey}, (∀ k ∈ ks, ∃ c, k = nk c) → ∃ cs : List Cf, ks = cs.map nk
  | [], _ => ⟨[], rfl⟩
  | k :: ks, h => by
    obtain ⟨c, rfl⟩ := h k List.mem_cons_self
    obtain ⟨cs, rfl⟩ := nks_of fun k hk => h k (List.mem_cons_of_mem _ hk)
    exact ⟨c :: cs, rfl⟩
theorem cut_mem {xs : List V} {lo hi : Option Int} {y : V} (h : y ∈ cutV xs lo hi) : y ∈ xs := List.mem_of_mem_drop (List.mem_of_mem_take h)
theorem lvs_kx {H H' : Hp} {dr nu ls : Addr} {vs : List V} {Ls : List (List Cf)} (d : DrAt H dr nu) (k : Kx dr H H') (h : Paired (LvT ls H) vs Ls) : Paired (LvT ls H') vs Ls :=
  Paired.mapP h fun v L z => by
    obtain ⟨a, as, rfl, e, r, n⟩ := z
    exact ⟨a, as, rfl, k _ _ (d.ne_refs e) e, refsOf_mono (d.tups k) r, n⟩
theorem lvs_refs {H : Hp} {ls : Addr} {vs : List V} {Ls : List (List Cf)} (h : Paired (LvT ls H) vs Ls) : ∃ as : List Addr, vs = as.map V.ref := by
  induction h with
  | nil => exact ⟨[], rfl⟩
  | cons z t ih =>
    obtain ⟨a, _, rfl, _⟩ := z
    obtain ⟨as, rfl⟩ := ih
    exact ⟨a :: as, rfl⟩
theorem lvt_lvo {H : Hp} {ls : Addr} {v : V} {L : List Cf} (z : LvT ls H v L) (hl : L.length ≤ 40) : LvO H v := by
  obtain ⟨a, as, rfl, e, r, _⟩ := z
  refine ⟨a, _, rfl, .inl e, by rw [List.length_map, ← paired_len r, List.length_map]; omega, refs_ito r fun k hk => ?_⟩
  obtain ⟨c, _, rfl⟩ := List.mem_map.mp hk
  exact ⟨c, rfl⟩
theorem lvs_lvo {H : Hp} {ls : Addr} {vs : List V} {Ls : List (List Cf)} (h : Paired (LvT ls H) vs Ls) (hl : ∀ L ∈ Ls, L.length ≤ 40) : ∀ v ∈ vs, LvO H v := by
  induction h with
  | nil => exact fun y hy => (nomatch hy)
  | cons z t ih =>
    intro y hy
    rcases List.mem_cons.mp hy with rfl | hy
    · exact lvt_lvo z (hl _ List.mem_cons_self)
    · exact ih (fun L hL => hl L (List.mem_cons_of_mem _ hL)) y hy
def spSpoilt : Sp := fun vs H Q _ => ∃ (dr nu ll : Addr) (x : V) (m : Mach) (ws : List V) (Ls : List (List Cf)), vs = [.ref dr, x, .ref ll] ∧ DrAt H dr nu ∧ Dv H x (machD m) ∧ 1 ≤ m.st ∧ H ll = some (.lst ws) ∧ Paired (LvT ll H) ws Ls ∧
  1 ≤ Ls.length ∧ Ls.length ≤ 40 ∧ (∀ L ∈ Ls, 1 ≤ L.length ∧ L.length ≤ 40) ∧ ∀ H' l, Kx dr H H' → DrAt H' dr nu → LsO H' l → Q (.ref l) H'
theorem sc_L_spoilt : FnScope ["_law_draws", "_law_machine_here", "_law_levels_here", "_law_pick", "_law_at", "_law_level", "_law_place", "_law_other"] ["_law_draws", "_law_machine_here", "_law_levels_here"] (defScope s_L_spoilt) := ⟨rfl, rfl, rfl, by decide +kernel, rfl, by decide +kernel, by decide +kernel⟩
theorem d_L_spoilt (T : Txt w K mg) : Def P w K mg base CX0 3 ("_law_spoilt", none) ["_law_draws", "_law_machine_here", "_law_levels_here"] (spSpoilt) := by
  refine Def.of0 (k := 2) T.f_L_spoilt sc_L_spoilt (fun _ _ _ _ _ _ us hl => match us, hl with | [_, _, _], _ => rfl) (fun vs H Q E h => ?_) (fun cdv A outer s H vs Q E hr h => ?_)
  · obtain ⟨dr, nu, ll, x, m, ws, Ls, rfl, _⟩ := h
    rfl
  · obtain ⟨dr, nu, ll, x, m, ws, Ls, rfl, d0, hm, st1, ell, rws, ln1, ln40, lens, q⟩ := h
    refine ⟨_, ((pss_cons (ps_set (i := 3) sc_L_spoilt.nd rfl (Or.inl rfl) (pe_op op_mod (pe_f (d_L_draw T) (hr.mono (by decide)) T.g_L_draw pass0 (pa_cons (pv 0) pa_nil)) pe_int))
       (pss_cons (ps_set (i := 4) sc_L_spoilt.nd rfl (Or.inl rfl) (pe_op op_mod (pe_f (d_L_draw T) (hr.mono (by decide)) T.g_L_draw pass0 (pa_cons (pv 0) pa_nil)) (pe_b call_len_seq T.b_len (pa_cons (pv 2) pa_nil))))
       (pss_cons (ps_set (i := 5) sc_L_spoilt.nd rfl (Or.inl rfl) (pe_ix ix_list (pv 2) (pv 4) (fun _ _ => rfl)))
       (pss_cons (ps_set (i := 6) sc_L_spoilt.nd rfl (Or.inl rfl) (pe_op op_mod (pe_f (d_L_draw T) (hr.mono (by decide)) T.g_L_draw pass0 (pa_cons (pv 0) pa_nil)) (pe_b call_len_seq T.b_len (pa_cons (pv 5) pa_nil))))
       (pss_cons (ps_set (i := 7) sc_L_spoilt.nd rfl (Or.inl rfl) (pe_tup (pa_cons (pe_op op_mod (pe_f (d_L_draw T) (hr.mono (by decide)) T.g_L_draw pass0 (pa_cons (pv 0) pa_nil)) (pe_ix ix_tup (pv 1) pe_int (fun _ _ => rfl))) (pa_cons (pe_ix ix_tup (pe_ix ix_list (pv 5) (pv 6) (fun _ _ => rfl)) pe_int (fun _ _ => rfl)) (pa_cons (pe_tup pa_nil) pa_nil)))))
       (pss_cons (ps_if (pt_cmpR op_eq (pv 3) pe_int (nomark _))
       (pss_one (ps_set (i := 5) sc_L_spoilt.nd rfl (Or.inl rfl) (pe_op op_cat (pe_slice sl_list (pv 5) po_none (po_some (pv 6))) (pe_slice sl_list (pv 5) (po_some (pe_op op_add (pv 6) pe_int)) po_none))))
       (pss_one (ps_if (pt_cmpR op_eq (pv 3) pe_int (nomark _))
       (pss_one (ps_set (i := 5) sc_L_spoilt.nd rfl (Or.inl rfl) (pe_b (cr_sortedSN rfl hr.units) T.b_sorted (pa_cons (pe_ty (cr_setOfN rfl hr.units) T.b_set (pa_cons (pe_op op_cat (pv 5) (pe_lst (pa_cons (pv 7) pa_nil))) pa_nil)) pa_nil))))
       (pss_one (ps_if (pt_cmpR op_eq (pv 3) pe_int (nomark _))
       (pss_one (ps_set (i := 5) sc_L_spoilt.nd rfl (Or.inl rfl) (pe_op op_cat (pv 5) (pe_slice sl_list (pv 5) (po_some (pv 6)) (po_some (pe_op op_add (pv 6) pe_int))))))
       (pss_one (ps_if (pt_cmpR op_eq (pv 3) pe_int (nomark _))
       (pss_one (ps_ret (pe_op op_cat (pe_slice sl_list (pv 2) po_none (po_some (pv 4))) (pe_slice sl_list (pv 2) (po_some (pe_op op_add (pv 4) pe_int)) po_none))))
       (pss_one (ps_if (pt_cmpR op_eq (pv 3) pe_int (nomark _))
       (pss_one (ps_ret (pe_op op_cat (pe_op op_cat (pe_slice sl_list (pv 2) po_none (po_some (pv 4))) (pe_lst (pa_cons (pe_ix ix_list (pv 2) (pv 4) (fun _ _ => rfl)) pa_nil))) (pe_slice sl_list (pv 2) (po_some (pv 4)) po_none))))
       (pss_one (ps_if (pt_cmpR op_eq (pv 3) pe_int (nomark _))
       (pss_one (ps_set (i := 5) sc_L_spoilt.nd rfl (Or.inl rfl) (pe_revL (pv 5))))
       (pss_one (ps_if (pt_cmpR op_eq (pv 3) pe_int (nomark _))
       (pss_one (ps_set (i := 5) sc_L_spoilt.nd rfl (Or.inl rfl) (pe_ty call_tuple_of T.b_tuple (pa_cons (pv 5) pa_nil))))
       (pss_one (ps_set (i := 5) sc_L_spoilt.nd rfl (Or.inl rfl) (pe_op op_cat (pe_op op_cat (pe_slice sl_list (pv 5) po_none (po_some (pv 6))) (pe_lst (pa_cons (pe_ty call_list_of T.b_list (pa_cons (pe_ix ix_list (pv 5) (pv 6) (fun _ _ => rfl)) pa_nil)) pa_nil))) (pe_slice sl_list (pv 5) (po_some (pe_op op_add (pv 6) pe_int)) po_none)))))))))))))))))
       (pss_one (ps_ret (pe_op op_cat (pe_op op_cat (pe_slice sl_list (pv 2) po_none (po_some (pv 4))) (pe_lst (pa_cons (pv 5) pa_nil))) (pe_slice sl_list (pv 2) (po_some (pe_op op_add (pv 4) pe_int)) po_none))))))))))), ?_⟩
    have lws : ws.length = Ls.length := paired_len rws
    refine ⟨_, rfl, dr, nu, rfl, d0, fun v1 H1 v10 v11 k1 d1 => ⟨_, _, rfl, rfl, by show (0 : Int) < 8; decide, ?_⟩⟩
    dsimp only
    generalize v1 % 8 = pick
    obtain ⟨was, hwas⟩ := lvs_refs rws
    have nll : ll ≠ dr := d0.ne_refs (hwas ▸ ell)
    have ell1 := k1 _ _ nll ell
    have rws1 := lvs_kx d0 k1 rws
    refine ⟨_, rfl, dr, nu, rfl, d1, fun v2 H2 v20 v21 k2 d2 => ⟨_, rfl, ll, _, rfl, .inl (SqL.of (k2 _ _ nll ell1)), _, _, rfl, rfl, by show (0 : Int) < (ws.length : Int); omega, ?_⟩⟩
    obtain ⟨at1, hat, eat⟩ := mod_nat (v := v2) (h := ws.length) (by omega)
    dsimp only
    rw [eat]
    have ell2 := k2 _ _ nll ell1
    have rws2 := lvs_kx d1 k2 rws1
    obtain ⟨v, hv⟩ : ∃ v, ws[at1]? = some v := ⟨_, List.getElem?_eq_getElem (by omega)⟩
    obtain ⟨L, hL, la, las, rfl, ela2, rla2, nla⟩ := paired_get rws2 hv
    have hlL := lens L (List.mem_of_getElem? hL)
    have lla : las.length = L.length := by rw [← paired_len rla2, List.length_map]
    refine ⟨_, rfl, _, rfl, ll, _, _, _, rfl, rfl, SqL.of ell2, atI_nat hv, ?_⟩
    have nla2 : la ≠ dr := d2.ne_refs ela2
    refine ⟨_, rfl, dr, nu, rfl, d2, fun v3 H3 v30 v31 k3 d3 => ⟨_, rfl, la, _, rfl, .inl (SqL.of (k3 _ _ nla2 ela2)), _, _, rfl, rfl, ?_⟩⟩
    have ela3 := k3 _ _ nla2 ela2
    refine ⟨by show (0 : Int) < ((las.map V.ref).length : Int); rw [List.length_map]; omega, ?_⟩
    obtain ⟨pl, hpl, epl⟩ := mod_nat (v := v3) (h := (las.map V.ref).length) (by rw [List.length_map]; omega)
    rw [List.length_map] at hpl
    dsimp only
    rw [epl]
    have ell3 := k3 _ _ nll ell2
    have rws3 := lvs_kx d2 k3 rws2
    refine ⟨_, rfl, dr, nu, rfl, d3, fun v4 H4 v40 v41 k4 d4 => ?_⟩
    have t4 : TupS H H4 := (d0.tups k1).trans ((d1.tups k2).trans ((d2.tups k3).trans (d3.tups k4)))
    have hm4 := Dv.monoT t4 (noL_mach m) hm
    obtain ⟨ma, c, dd, ys, rfl, em, _, _, _⟩ := mach_inv hm4
    have ela4 := k4 _ _ nla2 ela3
    have rla4 := refsOf_mono ((d2.tups k3).trans (d3.tups k4)) rla2
    have ell4 := k4 _ _ nll ell3
    have rws4 := lvs_kx d3 k4 rws3
    have k04 := k1.trans (k2.trans (k3.trans k4))
    obtain ⟨cf, hcf⟩ : ∃ cf, L[pl]? = some cf := ⟨_, List.getElem?_eq_getElem (by omega)⟩
    obtain ⟨ca, hca, kca⟩ := refs_get rla4 hcf
    obtain ⟨_, h1, m1, ez, eca, eh1, _⟩ := cf_inv kca
    cases ez
    have hcaV : (las.map V.ref)[pl]? = some (.ref ca) := by rw [List.getElem?_map, hca]; rfl
    refine ⟨_, rfl, _, _, (2 : Int), _, rfl, rfl, SqT.of em, rfl, _, _, rfl, rfl, by show (0 : Int) < (m.st : Int); omega, ?_⟩
    obtain ⟨q1, hq1, eq1⟩ := mod_nat (v := v4) (h := m.st) (by omega)
    dsimp only
    rw [eq1]
    refine ⟨_, rfl, _, rfl, la, _, _, _, rfl, rfl, SqL.of ela4, atI_nat hcaV, _, _, (1 : Int), _, rfl, rfl, SqT.of eca, rfl, Nat.zero_le _, fun mk nmk => ⟨by show 3 ≤ sizeLine; decide, fun ot not_ => ?_⟩⟩
    have sa := same_upd (o := .tup []) nmk
    have sb := same_upd (o := .tup [vInt q1, .ref h1, .ref mk]) not_
    have s45 := Same.tr sa sb
    have kot : KyT (upd (upd H4 mk (.tup [])) ot (.tup [vInt q1, .ref h1, .ref mk])) (nk (q1, cf.2)) (.ref ot) := cf_mk upd_same (s45 _ _ eh1) (sb _ _ upd_same)
    have ela5 := s45 _ _ ela4
    have rla5 := refsOf_mono (Same.tupS s45) rla4
    have ell5 := s45 _ _ ell4
    have k05 := k04.trans (.of s45)
    have d5 := d4.same s45
    have lws5 : ∀ v ∈ ws, LvO (upd (upd H4 mk (.tup [])) ot (.tup [vInt q1, .ref h1, .ref mk])) v := fun v hv => (lvs_lvo rws4 (fun L hL => (lens L hL).2) v hv).mono s45
    have eca5 := s45 _ _ eca
    have kca5 := kca.mono (Same.tupS s45)
    generalize upd (upd H4 mk (.tup [])) ot (.tup [vInt q1, .ref h1, .ref mk]) = H5 at kot ela5 rla5 ell5 k05 d5 lws5 eca5 kca5 ⊢
    have its5 : ∀ y ∈ las.map V.ref, ItO H5 y := refs_ito rla5 fun k hk => by
      obtain ⟨c, _, rfl⟩ := List.mem_map.mp hk
      exact ⟨c, rfl⟩
    have ll5 : (las.map V.ref).length ≤ 40 := by rw [List.length_map]; omega
    have fin : ∀ (H6 : Hp), Same H5 H6 → ∀ (H7 : Hp) (p : Addr) (v : V) (xs ys : List V), LvO H6 v → xs.length ≤ 40 → ys.length ≤ 40 → (∀ y ∈ xs, y ∈ ws) → (∀ y ∈ ys, y ∈ ws) → Same H6 H7 → H7 p = none → Q (.ref p) (upd H7 p (.lst ((xs ++ [v]) ++ ys))) := by
      intro H6 e56 H7 p v xs ys hv l1 l2 hx hy e67 np
      have e7 := same_upd (o := .lst ((xs ++ [v]) ++ ys)) np
      have e57 := Same.tr e56 (Same.tr e67 e7)
      refine q _ p (k05.trans (.of e57)) (d5.same e57) ⟨_, upd_same, by simp only [List.length_append, List.length_singleton]; omega, fun z hz => ?_⟩
      rcases List.mem_append.mp hz with hz | hz
      · rcases List.mem_append.mp hz with hz | hz
        · exact (lws5 z (hx z hz)).mono e57
        · rw [List.mem_singleton.mp hz]
          exact hv.mono (Same.tr e67 e7)
      · exact (lws5 z (hy z hz)).mono e57
    refine ⟨_, rfl, rfl, _, rfl, iteB (fun _ => ?_) (fun _ => ?_)⟩
    · refine ⟨_, rfl, _, rfl, _, rfl, la, _, rfl, SqL.of ela5, fun r1 nr1 => ⟨_, rfl, _, rfl, _, _, rfl, rfl, _, rfl, la, _, rfl, SqL.of (same_upd nr1 _ _ ela5), fun r2 nr2 => ?_⟩⟩
      have g1 := same_upd (o := .lst (cutV (las.map V.ref) none (some (pl : Int)))) nr1
      have g2 := same_upd (o := .lst (cutV (las.map V.ref) (some ((pl : Int) + 1)) none)) nr2
      refine ⟨_, _, _, _, rfl, rfl, g2 _ _ upd_same, upd_same, by have := cutV_length (las.map V.ref) none (some (pl : Int)); have := cutV_length (las.map V.ref) (some ((pl : Int) + 1)) none; rw [sizeLine_eq]; omega, fun nb nnb => ?_⟩
      have g3 := same_upd (o := .lst (cutV (las.map V.ref) none (some (pl : Int)) ++ cutV (las.map V.ref) (some ((pl : Int) + 1)) none)) nnb
      have EB := Same.tr g1 (Same.tr g2 g3)
      have LB : LvO _ (.ref nb) := ⟨nb, _, rfl, .inl upd_same, by have := cutV_length (las.map V.ref) none (some (pl : Int)); have := cutV_length (las.map V.ref) (some ((pl : Int) + 1)) none; rw [List.length_append]; omega, fun y hy => ((its5 y ((List.mem_append.mp hy).elim cut_mem cut_mem)).mono EB)⟩
      refine ⟨_, rfl, _, rfl, _, rfl, ll, _, rfl, SqL.of (EB _ _ ell5), fun p1 np1 => ⟨_, rfl, by show 1 ≤ sizeLine; decide, fun p2 np2 => ?_⟩⟩
      have t1 := same_upd (o := .lst (cutV ws none (some (at1 : Int)))) np1
      have t2 := same_upd (o := .lst [V.ref nb]) np2
      refine ⟨_, _, _, _, rfl, rfl, t2 _ _ upd_same, upd_same, by have := cutV_length ws none (some (at1 : Int)); rw [sizeLine_eq, List.length_singleton]; omega, fun p3 np3 => ?_⟩
      have t3 := same_upd (o := .lst (cutV ws none (some (at1 : Int)) ++ [V.ref nb])) np3
      have t123 := Same.tr t1 (Same.tr t2 t3)
      refine ⟨_, rfl, _, rfl, _, _, rfl, rfl, _, rfl, ll, _, rfl, SqL.of (t123 _ _ (EB _ _ ell5)), fun p4 np4 => ?_⟩
      have t4 := same_upd (o := .lst (cutV ws (some ((at1 : Int) + 1)) none)) np4
      refine ⟨_, _, _, _, rfl, rfl, t4 _ _ upd_same, upd_same, by have := cutV_length ws none (some (at1 : Int)); have := cutV_length ws (some ((at1 : Int) + 1)) none; rw [sizeLine_eq, List.length_append, List.length_singleton]; omega, fun p5 np5 => ?_⟩
      exact fin _ EB _ p5 _ _ _ LB (by have := cutV_length ws none (some (at1 : Int)); omega) (by have := cutV_length ws (some ((at1 : Int) + 1)) none; omega) (fun y hy => cut_mem hy) (fun y hy => cut_mem hy) (Same.tr t123 t4) np5
    · refine ⟨_, rfl, rfl, _, rfl, iteB (fun _ => ?_) (fun _ => ?_)⟩
      · refine ⟨_, rfl, _, rfl, by show 1 ≤ sizeLine; decide, fun r1 nr1 => ?_⟩
        have g1 := same_upd (o := .lst [V.ref ot]) nr1
        refine ⟨_, _, _, _, rfl, rfl, g1 _ _ ela5, upd_same, by rw [sizeLine_eq, List.length_singleton]; omega, fun r2 nr2 => ?_⟩
        have g2 := same_upd (o := .lst (las.map V.ref ++ [V.ref ot])) nr2
        have g12 := Same.tr g1 g2
        refine ⟨r2, las ++ [ot], L.map nk ++ [nk (q1, cf.2)], rfl, SqL.of (by rw [upd_same, List.map_append]; rfl), refsOf_app (refsOf_mono (Same.tupS g12) rla5) (.cons (kot.mono (Same.tupS g12)) .nil), fun k hk => ?_, by rw [List.length_append, List.length_map, List.length_singleton]; omega, fun r3 n3 ks' nr3 ndk hks' hns => ?_⟩
        · rcases List.mem_append.mp hk with hk | hk
          · obtain ⟨c, _, rfl⟩ := List.mem_map.mp hk
            exact nk_depth c
          · rw [List.mem_singleton.mp hk]
            exact nk_depth _
        have hnk : ∀ k ∈ ks', ∃ c, k = nk c := fun k hk => by
          rcases List.mem_append.mp ((hks' k).mp hk) with hk | hk
          · obtain ⟨c, _, rfl⟩ := List.mem_map.mp hk
            exact ⟨c, rfl⟩
          · exact ⟨_, List.mem_singleton.mp hk⟩
        obtain ⟨cs, rfl⟩ := nks_of hnk
        have few : cs.length ≤ 41 := by have := ndk.length_le_of_subset (fun k hk => (hks' k).mp hk); rw [List.length_map, List.length_append, List.length_map, List.length_singleton] at this; omega
        have g3 := same_upd (o := n3) nr3
        refine ⟨r3, cs.map nk, rfl, hns, keysOk_nk cs, fun nb nas ks2 hp nnb hr2 => ?_⟩
        have g4 := same_upd (o := .lst (nas.map V.ref)) nnb
        have EB := Same.tr g12 (Same.tr g3 g4)
        have LB : LvO _ (.ref nb) := ⟨nb, _, rfl, .inl upd_same, by rw [List.length_map, ← paired_len hr2, List.length_mergeSort, hp.length_eq, List.length_map]; omega, refs_ito (refsOf_mono (Same.tupS g4) hr2) fun k hk => hnk k (hp.mem_iff.mp (List.mem_mergeSort.mp hk))⟩
        refine ⟨_, rfl, _, rfl, _, rfl, ll, _, rfl, SqL.of (EB _ _ ell5), fun p1 np1 => ⟨_, rfl, by show 1 ≤ sizeLine; decide, fun p2 np2 => ?_⟩⟩
        have t1 := same_upd (o := .lst (cutV ws none (some (at1 : Int)))) np1
        have t2 := same_upd (o := .lst [V.ref nb]) np2
        refine ⟨_, _, _, _, rfl, rfl, t2 _ _ upd_same, upd_same, by have := cutV_length ws none (some (at1 : Int)); rw [sizeLine_eq, List.length_singleton]; omega, fun p3 np3 => ?_⟩
        have t3 := same_upd (o := .lst (cutV ws none (some (at1 : Int)) ++ [V.ref nb])) np3
        have t123 := Same.tr t1 (Same.tr t2 t3)
        refine ⟨_, rfl, _, rfl, _, _, rfl, rfl, _, rfl, ll, _, rfl, SqL.of (t123 _ _ (EB _ _ ell5)), fun p4 np4 => ?_⟩
        have t4 := same_upd (o := .lst (cutV ws (some ((at1 : Int) + 1)) none)) np4
        refine ⟨_, _, _, _, rfl, rfl, t4 _ _ upd_same, upd_same, by have := cutV_length ws none (some (at1 : Int)); have := cutV_length ws (some ((at1 : Int) + 1)) none; rw [sizeLine_eq, List.length_append, List.length_singleton]; omega, fun p5 np5 => ?_⟩
        exact fin _ EB _ p5 _ _ _ LB (by have := cutV_length ws none (some (at1 : Int)); omega) (by have := cutV_length ws (some ((at1 : Int) + 1)) none; omega) (fun y hy => cut_mem hy) (fun y hy => cut_mem hy) (Same.tr t123 t4) np5
      · refine ⟨_, rfl, rfl, _, rfl, iteB (fun _ => ?_) (fun _ => ?_)⟩
        · refine ⟨_, rfl, _, rfl, _, rfl, _, rfl, _, rfl, _, _, rfl, rfl, _, rfl, la, _, rfl, SqL.of ela5, fun r1 nr1 => ?_⟩
          have g1 := same_upd (o := .lst (cutV (las.map V.ref) (some (pl : Int)) (some ((pl : Int) + 1)))) nr1
          refine ⟨_, _, _, _, rfl, rfl, g1 _ _ ela5, upd_same, by have := cutV_length (las.map V.ref) (some (pl : Int)) (some ((pl : Int) + 1)); rw [sizeLine_eq]; omega, fun nb nnb => ?_⟩
          have g3 := same_upd (o := .lst (las.map V.ref ++ cutV (las.map V.ref) (some (pl : Int)) (some ((pl : Int) + 1)))) nnb
          have EB := Same.tr g1 g3
          have LB : LvO _ (.ref nb) := ⟨nb, _, rfl, .inl upd_same, by have := cutV_length (las.map V.ref) (some (pl : Int)) (some ((pl : Int) + 1)); rw [List.length_append]; omega, fun y hy => ((its5 y ((List.mem_append.mp hy).elim id cut_mem)).mono EB)⟩
          refine ⟨_, rfl, _, rfl, _, rfl, ll, _, rfl, SqL.of (EB _ _ ell5), fun p1 np1 => ⟨_, rfl, by show 1 ≤ sizeLine; decide, fun p2 np2 => ?_⟩⟩
          have t1 := same_upd (o := .lst (cutV ws none (some (at1 : Int)))) np1
          have t2 := same_upd (o := .lst [V.ref nb]) np2
          refine ⟨_, _, _, _, rfl, rfl, t2 _ _ upd_same, upd_same, by have := cutV_length ws none (some (at1 : Int)); rw [sizeLine_eq, List.length_singleton]; omega, fun p3 np3 => ?_⟩
          have t3 := same_upd (o := .lst (cutV ws none (some (at1 : Int)) ++ [V.ref nb])) np3
          have t123 := Same.tr t1 (Same.tr t2 t3)
          refine ⟨_, rfl, _, rfl, _, _, rfl, rfl, _, rfl, ll, _, rfl, SqL.of (t123 _ _ (EB _ _ ell5)), fun p4 np4 => ?_⟩
          have t4 := same_upd (o := .lst (cutV ws (some ((at1 : Int) + 1)) none)) np4
          refine ⟨_, _, _, _, rfl, rfl, t4 _ _ upd_same, upd_same, by have := cutV_length ws none (some (at1 : Int)); have := cutV_length ws (some ((at1 : Int) + 1)) none; rw [sizeLine_eq, List.length_append, List.length_singleton]; omega, fun p5 np5 => ?_⟩
          exact fin _ EB _ p5 _ _ _ LB (by have := cutV_length ws none (some (at1 : Int)); omega) (by have := cutV_length ws (some ((at1 : Int) + 1)) none; omega) (fun y hy => cut_mem hy) (fun y hy => cut_mem hy) (Same.tr t123 t4) np5
        · refine ⟨_, rfl, rfl, _, rfl, iteB (fun _ => ?_) (fun _ => ?_)⟩
          · refine ⟨_, rfl, _, rfl, _, rfl, ll, _, rfl, SqL.of ell5, fun r1 nr1 => ⟨_, rfl, _, rfl, _, _, rfl, rfl, _, rfl, ll, _, rfl, SqL.of (same_upd nr1 _ _ ell5), fun r2 nr2 => ?_⟩⟩
            have g1 := same_upd (o := .lst (cutV ws none (some (at1 : Int)))) nr1
            have g2 := same_upd (o := .lst (cutV ws (some ((at1 : Int) + 1)) none)) nr2
            refine ⟨_, _, _, _, rfl, rfl, g2 _ _ upd_same, upd_same, by have := cutV_length ws none (some (at1 : Int)); have := cutV_length ws (some ((at1 : Int) + 1)) none; rw [sizeLine_eq]; omega, fun nb nnb => ?_⟩
            have g3 := same_upd (o := .lst (cutV ws none (some (at1 : Int)) ++ cutV ws (some ((at1 : Int) + 1)) none)) nnb
            have EB := Same.tr g1 (Same.tr g2 g3)
            exact q _ nb (k05.trans (.of EB)) (d5.same EB) ⟨_, upd_same, by have := cutV_length ws none (some (at1 : Int)); have := cutV_length ws (some ((at1 : Int) + 1)) none; rw [List.length_append]; omega, fun z hz => (lws5 z ((List.mem_append.mp hz).elim cut_mem cut_mem)).mono EB⟩
          · refine ⟨_, rfl, rfl, _, rfl, iteB (fun _ => ?_) (fun _ => ?_)⟩
            · refine ⟨_, rfl, _, rfl, _, rfl, ll, _, rfl, SqL.of ell5, fun r1 nr1 => ?_⟩
              have g1 := same_upd (o := .lst (cutV ws none (some (at1 : Int)))) nr1
              refine ⟨_, rfl, _, rfl, ll, _, _, _, rfl, rfl, SqL.of (g1 _ _ ell5), atI_nat hv, by show 1 ≤ sizeLine; decide, fun r2 nr2 => ?_⟩
              have g2 := same_upd (o := .lst [V.ref la]) nr2
              refine ⟨_, _, _, _, rfl, rfl, g2 _ _ upd_same, upd_same, by have := cutV_length ws none (some (at1 : Int)); rw [sizeLine_eq, List.length_singleton]; omega, fun r3 nr3 => ?_⟩
              have g3 := same_upd (o := .lst (cutV ws none (some (at1 : Int)) ++ [V.ref la])) nr3
              have g123 := Same.tr g1 (Same.tr g2 g3)
              refine ⟨_, rfl, _, rfl, _, rfl, ll, _, rfl, SqL.of (g123 _ _ ell5), fun r4 nr4 => ?_⟩
              have g4 := same_upd (o := .lst (cutV ws (some (at1 : Int)) none)) nr4
              refine ⟨_, _, _, _, rfl, rfl, g4 _ _ upd_same, upd_same, by have := cutV_length ws none (some (at1 : Int)); have := cutV_length ws (some (at1 : Int)) none; rw [sizeLine_eq, List.length_append, List.length_singleton]; omega, fun p5 np5 => ?_⟩
              exact fin _ Same.rf _ p5 _ _ _ (lws5 _ (List.mem_of_getElem? hv)) (by have := cutV_length ws none (some (at1 : Int)); omega) (by have := cutV_length ws (some (at1 : Int)) none; omega) (fun y hy => cut_mem hy) (fun y hy => cut_mem hy) (Same.tr g123 g4) np5
            · refine ⟨_, rfl, rfl, _, rfl, iteB (fun _ => ?_) (fun _ => ?_)⟩
              · refine ⟨_, rfl, la, _, rfl, SqL.of ela5, fun nb nnb => ?_⟩
                have EB := same_upd (o := .lst (las.map V.ref).reverse) nnb
                have LB : LvO _ (.ref nb) := ⟨nb, _, rfl, .inl upd_same, by rw [List.length_reverse]; omega, fun y hy => (its5 y (List.mem_reverse.mp hy)).mono EB⟩
                refine ⟨_, rfl, _, rfl, _, rfl, ll, _, rfl, SqL.of (EB _ _ ell5), fun p1 np1 => ⟨_, rfl, by show 1 ≤ sizeLine; decide, fun p2 np2 => ?_⟩⟩
                have t1 := same_upd (o := .lst (cutV ws none (some (at1 : Int)))) np1
                have t2 := same_upd (o := .lst [V.ref nb]) np2
                refine ⟨_, _, _, _, rfl, rfl, t2 _ _ upd_same, upd_same, by have := cutV_length ws none (some (at1 : Int)); rw [sizeLine_eq, List.length_singleton]; omega, fun p3 np3 => ?_⟩
                have t3 := same_upd (o := .lst (cutV ws none (some (at1 : Int)) ++ [V.ref nb])) np3
                have t123 := Same.tr t1 (Same.tr t2 t3)
                refine ⟨_, rfl, _, rfl, _, _, rfl, rfl, _, rfl, ll, _, rfl, SqL.of (t123 _ _ (EB _ _ ell5)), fun p4 np4 => ?_⟩
                have t4 := same_upd (o := .lst (cutV ws (some ((at1 : Int) + 1)) none)) np4
                refine ⟨_, _, _, _, rfl, rfl, t4 _ _ upd_same, upd_same, by have := cutV_length ws none (some (at1 : Int)); have := cutV_length ws (some ((at1 : Int) + 1)) none; rw [sizeLine_eq, List.length_append, List.length_singleton]; omega, fun p5 np5 => ?_⟩
                exact fin _ EB _ p5 _ _ _ LB (by have := cutV_length ws none (some (at1 : Int)); omega) (by have := cutV_length ws (some ((at1 : Int) + 1)) none; omega) (fun y hy => cut_mem hy) (fun y hy => cut_mem hy) (Same.tr t123 t4) np5
              · refine ⟨_, rfl, rfl, _, rfl, iteB (fun _ => ?_) (fun _ => ?_)⟩
                · refine ⟨_, rfl, la, _, rfl, .inl ⟨SqL.of ela5, fun nb nnb => ?_⟩⟩
                  have EB := same_upd (o := .tup (las.map V.ref)) nnb
                  have LB : LvO _ (.ref nb) := ⟨nb, _, rfl, .inr upd_same, by omega, fun y hy => (its5 y hy).mono EB⟩
                  refine ⟨_, rfl, _, rfl, _, rfl, ll, _, rfl, SqL.of (EB _ _ ell5), fun p1 np1 => ⟨_, rfl, by show 1 ≤ sizeLine; decide, fun p2 np2 => ?_⟩⟩
                  have t1 := same_upd (o := .lst (cutV ws none (some (at1 : Int)))) np1
                  have t2 := same_upd (o := .lst [V.ref nb]) np2
                  refine ⟨_, _, _, _, rfl, rfl, t2 _ _ upd_same, upd_same, by have := cutV_length ws none (some (at1 : Int)); rw [sizeLine_eq, List.length_singleton]; omega, fun p3 np3 => ?_⟩
                  have t3 := same_upd (o := .lst (cutV ws none (some (at1 : Int)) ++ [V.ref nb])) np3
                  have t123 := Same.tr t1 (Same.tr t2 t3)
                  refine ⟨_, rfl, _, rfl, _, _, rfl, rfl, _, rfl, ll, _, rfl, SqL.of (t123 _ _ (EB _ _ ell5)), fun p4 np4 => ?_⟩
                  have t4 := same_upd (o := .lst (cutV ws (some ((at1 : Int) + 1)) none)) np4
                  refine ⟨_, _, _, _, rfl, rfl, t4 _ _ upd_same, upd_same, by have := cutV_length ws none (some (at1 : Int)); have := cutV_length ws (some ((at1 : Int) + 1)) none; rw [sizeLine_eq, List.length_append, List.length_singleton]; omega, fun p5 np5 => ?_⟩
                  exact fin _ EB _ p5 _ _ _ LB (by have := cutV_length ws none (some (at1 : Int)); omega) (by have := cutV_length ws (some ((at1 : Int) + 1)) none; omega) (fun y hy => cut_mem hy) (fun y hy => cut_mem hy) (Same.tr t123 t4) np5
                · refine ⟨_, rfl, _, rfl, _, rfl, la, _, rfl, SqL.of ela5, fun r1 nr1 => ?_⟩
                  have g1 := same_upd (o := .lst (cutV (las.map V.ref) none (some (pl : Int)))) nr1
                  refine ⟨_, rfl, _, rfl, la, _, _, _, rfl, rfl, SqL.of (g1 _ _ ela5), atI_nat hcaV, ca, _, rfl, .inr (SqT.of (g1 _ _ eca5)), fun r2 nr2 => ⟨by show 1 ≤ sizeLine; decide, fun r3 nr3 => ?_⟩⟩
                  have g2 := same_upd (o := .lst [vInt cf.1, .ref h1, .ref m1]) nr2
                  have g3 := same_upd (o := .lst [V.ref r2]) nr3
                  refine ⟨_, _, _, _, rfl, rfl, g3 _ _ (g2 _ _ upd_same), upd_same, by have := cutV_length (las.map V.ref) none (some (pl : Int)); rw [sizeLine_eq, List.length_singleton]; omega, fun r4 nr4 => ?_⟩
                  have g4 := same_upd (o := .lst (cutV (las.map V.ref) none (some (pl : Int)) ++ [V.ref r2])) nr4
                  have g14 := Same.tr g1 (Same.tr g2 (Same.tr g3 g4))
                  refine ⟨_, rfl, _, rfl, _, _, rfl, rfl, _, rfl, la, _, rfl, SqL.of (g14 _ _ ela5), fun r5 nr5 => ?_⟩
                  have g5 := same_upd (o := .lst (cutV (las.map V.ref) (some ((pl : Int) + 1)) none)) nr5
                  refine ⟨_, _, _, _, rfl, rfl, g5 _ _ upd_same, upd_same, by have := cutV_length (las.map V.ref) none (some (pl : Int)); have := cutV_length (las.map V.ref) (some ((pl : Int) + 1)) none; rw [sizeLine_eq, List.length_append, List.length_singleton]; omega, fun nb nnb => ?_⟩
                  have g6 := same_upd (o := .lst ((cutV (las.map V.ref) none (some (pl : Int)) ++ [V.ref r2]) ++ cutV (las.map V.ref) (some ((pl : Int) + 1)) none)) nnb
                  have EB := Same.tr g14 (Same.tr g5 g6)
                  have r2e : ItO H5 (.ref ca) := its5 _ (List.mem_of_getElem? hcaV)
                  have r2o : ItO (upd (upd H5 r1 (.lst (cutV (las.map V.ref) none (some (pl : Int))))) r2 (.lst [vInt cf.1, .ref h1, .ref m1])) (.ref r2) := by
                    have kd := kca5.dv
                    rw [nk_data] at kd
                    obtain ⟨b, xs, eb, e1, r1'⟩ := kd.tup_inv
                    cases eb
                    rw [eca5] at e1
                    cases e1
                    refine ⟨.list _, .lst upd_same (r1'.mono (Same.tr g1 g2)), ?_⟩
                    refine .list fun x hx => ?_
                    simp only [List.mem_cons, List.not_mem_nil, or_false] at hx
                    rcases hx with rfl | rfl | rfl
                    · exact .int _
                    · refine .tuple fun x hx => ?_
                      obtain ⟨i, _, rfl⟩ := List.mem_map.mp hx
                      exact .int _
                    · exact LayN.tuple (n := 0) (fun x hx => by cases hx)
                  have LB0 : ∀ (H9 : Hp), H9 nb = some (.lst ((cutV (las.map V.ref) none (some (pl : Int)) ++ [V.ref r2]) ++ cutV (las.map V.ref) (some ((pl : Int) + 1)) none)) → Same H5 H9 → ItO H9 (.ref r2) → LvO H9 (.ref nb) := fun H9 e9 s9 r9 => by
                    refine ⟨nb, _, rfl, .inl e9, by have := cutV_length (las.map V.ref) none (some (pl : Int)); have := cutV_length (las.map V.ref) (some ((pl : Int) + 1)) none; simp only [List.length_append, List.length_singleton]; omega, fun y hy => ?_⟩
                    rcases List.mem_append.mp hy with hy | hy
                    · rcases List.mem_append.mp hy with hy | hy
                      · exact (its5 y (cut_mem hy)).mono s9
                      · rw [List.mem_singleton.mp hy]
                        exact r9
                    · exact (its5 y (cut_mem hy)).mono s9
                  have LB := LB0 _ upd_same EB (r2o.mono (Same.tr g3 (Same.tr g4 (Same.tr g5 g6))))
                  refine ⟨_, rfl, _, rfl, _, rfl, ll, _, rfl, SqL.of (EB _ _ ell5), fun p1 np1 => ⟨_, rfl, by show 1 ≤ sizeLine; decide, fun p2 np2 => ?_⟩⟩
                  have t1 := same_upd (o := .lst (cutV ws none (some (at1 : Int)))) np1
                  have t2 := same_upd (o := .lst [V.ref nb]) np2
                  refine ⟨_, _, _, _, rfl, rfl, t2 _ _ upd_same, upd_same, by have := cutV_length ws none (some (at1 : Int)); rw [sizeLine_eq, List.length_singleton]; omega, fun p3 np3 => ?_⟩
                  have t3 := same_upd (o := .lst (cutV ws none (some (at1 : Int)) ++ [V.ref nb])) np3
                  have t123 := Same.tr t1 (Same.tr t2 t3)
                  refine ⟨_, rfl, _, rfl, _, _, rfl, rfl, _, rfl, ll, _, rfl, SqL.of (t123 _ _ (EB _ _ ell5)), fun p4 np4 => ?_⟩
                  have t4 := same_upd (o := .lst (cutV ws (some ((at1 : Int) + 1)) none)) np4
                  refine ⟨_, _, _, _, rfl, rfl, t4 _ _ upd_same, upd_same, by have := cutV_length ws none (some (at1 : Int)); have := cutV_length ws (some ((at1 : Int) + 1)) none; rw [sizeLine_eq, List.length_append, List.length_singleton]; omega, fun p5 np5 => ?_⟩
                  exact fin _ EB _ p5 _ _ _ LB (by have := cutV_length ws none (some (at1 : Int)); omega) (by have := cutV_length ws (some ((at1 : Int) + 1)) none; omega) (fun y hy => cut_mem hy) (fun y hy => cut_mem hy) (Same.tr t123 t4) np5
end K54
set_option Elab.async false
set_option linter.all false
set_option maxRecDepth 100000
set_option maxHeartbeats 4000000
set_option pp.maxSteps 800
namespace K54
open PySem PySem.Spec PyProof.Rows L2
def wManyAs (K : PySem.W.Frag) (i : Nat) (Wout : WX) (D : Ends) : List (Value × (Addr → Value → Option Addr → TS)) → WX
  | [] => Wout
  | (c, ts) :: r => fun cls d σ H => ∃ b, PySem.W.exmOne K cls c = some b ∧ (b = true → ∀ a, H a = none → ts a cls d { nx := fun σ' H' => D.nx (σ'.set i none) H', rt := D.rt, bk := fun σ' H' => D.bk (σ'.set i none) H', ct := fun σ' H' => D.ct (σ'.set i none) H' } (σ.set i (some (.ref a))) H) ∧ (b = false → wManyAs K i Wout D r cls d σ H)
inductive HdsAs (X : Cx) (n : Str) : List ExceptHandler → List (Value × (Addr → Value → Option Addr → TS)) → Prop
  | nil : HdsAs X n [] []
  | cons {x : Str} {c : Value} {ts : Addr → Value → Option Addr → TS} {b₀ : Stmt} {suite : List Stmt} {np pos' : Pos} {hds : List ExceptHandler} {l : List (Value × (Addr → Value → Option Addr → TS))} (hc : Names X x c)
      (hsu : ∀ (a : Addr) (oe : Obj) (cls : Value) (d : Option Addr) (pn : List (Addr × Obj)), Zc cls d oe → (∃ vs, oe.data = .fields vs) → PSs (X.suite a ((a, oe) :: pn)) (b₀ :: suite) (ts a cls d)) (r : HdsAs X n hds l) :
      HdsAs X n (.ExceptHandler (some (.Name x np)) (some n) (b₀ :: suite) pos' :: hds) ((c, ts) :: l)
section
variable {X : Cx} {body : List Stmt} {n : Str} {i : Nat} {h₀ : ExceptHandler} {hds : List ExceptHandler} {l : List (Value × (Addr → Value → Option Addr → TS))} {pos : Pos} {tb : WX → TS} {Wout : WX}
theorem ps_try_manyAs (hs : X.stack = X.env :: X.outer) (hf : X.env.frame = some X.env.locals) (hN : X.N.Nodup) (hi : X.N[i]? = some n) (hln : X.env.kindOf n = some .local) (tk : Takes X Wout)
    (hb : ∀ (W : WX) (pn : List (Addr × Obj)) (xe : Value → Shared → Prop), Takes (X.tr pn xe) W → PassesOwn (model X.prog X.w) X.A X.env xe → PSs (X.tr pn xe) body (tb W))
    (hh : HdsAs X n (h₀ :: hds) l) : PS X (.Try body (h₀ :: hds) [] [] pos) (fun D σ H => tb (wManyAs X.K i Wout D l) D σ H) := by
  refine ⟨fun pins s σ H D I h => ?_⟩
  have ok := I.ok
  have hfr : X.A.frames = some (X.env :: X.outer) := by rw [ok.frames, hs]
  have hloc : Loc X.env.scope n := .inl hln
  refine wpAny_Try_except ?_
  refine wpAny_mono ((hb (wManyAs X.K i Wout D l) (X.pn ++ pins) (fun e s₁ => wpAny (model X.prog X.w) X.A (noteFrame e X.env) (fun _ s₂ => wpAny (model X.prog X.w) X.A (setFlight e none) (fun _ s₃ =>
    wpAny (model X.prog X.w) X.A (handleBy e X.env (h₀ :: hds)) (SP X pins D) X.xe s₃) X.xe s₂) X.xe s₁) (fun u s' xx => ?_) PassesOwn.looking).run [] s σ H D (I.toTry _) h) (fun f s1 hsp => ?_) (fun e s1 he => he)
  · obtain ⟨a, B, sI, pins', σ', H', cls, d, rfl, J', nb, up, sky, na, os, ag, w⟩ := xx
    have J : Inv X pins σ' H' sI := J'.ofTry ok
    have sky' : Sky B (X.env :: X.outer) a (Zc cls d) X.env.locals s'.heap := by rw [← hs]; exact sky
    show wpAny (model X.prog X.w) X.A (noteFrame (.ref a) X.env) _ _ _
    refine Sky.land Zc.steady hfr hf sky' fun h3 fl3 up3 => ?_
    have J3 : Inv X pins σ' H' { s' with heap := h3 } := J.landed nb fl3.1 (up.trans up3) os ag
    obtain ⟨oe3, vs3, he3, hz3, hd3⟩ := fl3.there
    have notFr : ∀ {h : Heap} {o : Obj} {vs : Array Value}, h.FunFrames B (X.env :: X.outer) → h.get? a = some o → o.data = .fields vs → a ∉ frs (X.env :: X.outer) := fun {h o vs} ff e dd hm => by
      obtain ⟨_, o', e', hnf⟩ := ff.mem hm
      rw [e] at e'; cases e'
      exact hnf _ dd
    have nfr := notFr fl3.2.2.1 he3 hd3
    have nL : a ≠ X.env.locals := fun z => nfr (List.mem_filterMap.mpr ⟨X.env, List.mem_cons_self, by rw [hf, z]⟩)
    have nF : a ∉ X.fs := fun hm => by
      obtain ⟨e, he, q⟩ := List.mem_filterMap.mp hm
      exact nfr (List.mem_filterMap.mpr ⟨e, List.mem_cons_of_mem _ he, q⟩)
    have S3 := J3.suite he3 hd3 na nL nF
    have go : ∀ {hds' : List ExceptHandler} {l' : List (Value × (Addr → Value → Option Addr → TS))}, HdsAs X n hds' l' → wManyAs X.K i Wout D l' cls d σ' H' →
        wpAny (model X.prog X.w) X.A (handleBy (.ref a) X.env hds') (SP X pins D) X.xe { s' with heap := h3 } := by
      intro hds' l' hk
      induction hk with
      | nil =>
        intro w
        refine wpAny_handleBy_nil ?_
        obtain ⟨k1, k2, k3, oe, vs, T, oT, ts', he, hz, hd, h1, hr⟩ := id fl3
        unfold PySem.passOn
        refine wpAny_bind (wpAny_field he hd h1 ?_)
        rw [if_neg (show ¬ ((Value.ref T == Value.none) = true) from by simp)]
        have fin : wpAny (model X.prog X.w) X.A (setFlight (.ref a) X.env.frame) (fun _ s4 => wpAny (model X.prog X.w) X.A (throw (.ref a) : Sem Flow) (SP X pins D) X.xe s4) X.xe { s' with heap := h3 } := by
          rw [hf]
          refine HandSPX.setFlight_upZ fl3 fun h4 hh4 up4 => wpAny_throw (tk _ _ ?_)
          exact ⟨a, B, sI, pins, σ', H', cls, d, rfl, J, nb, (up.trans up3).trans up4, .inr (.inr (by rw [hs]; exact hh4)), na, os, ag, w⟩
        first
          | exact wpAny_bind (wpAny_pure (wpAny_bind fin))
          | exact wpAny_bind fin
      | @cons x c ts b₀ suite np pos' hds2 l2 hc hsu r ih =>
        intro w
        obtain ⟨b, hb1, hyes, hno⟩ := w
        refine wpAny_handleBy_cons (codeAny_handlers_test ?_) (by intro q; cases q)
        have LT : PySem.W.Looks (model X.prog X.w) h3 (typeOf (.ref a)) cls := fun A Q E s k q => wpAny_typeOf_ref (k _ _ he3) (by rw [hz3.1]; exact q)
        have LM := PySem.W.exm_one (M := model X.prog X.w) (J3.kIn) LT hb1
        have test : ∀ {Q : Value → Shared → Prop} {E : Value → Shared → Prop}, Q c { s' with heap := h3 } → wpAny (model X.prog X.w) (X.A.mark (some (.ref a))) (eval (.Name x np) X.env) Q E { s' with heap := h3 } := fun {Q E} q => by
          obtain ⟨hg, hdbg, hm | ⟨hm, hv, hnn⟩⟩ := hc
          · exact ld_glob (X := X.suite a ((a, oe3) :: (X.pn ++ pins))) S3 hg hm q hdbg
          · exact ld_blt (X := X.suite a ((a, oe3) :: (X.pn ++ pins))) S3 hg hm hv q hnn hdbg
        refine test (LM.here ?_)
        cases b with
        | true =>
          refine codeAny_handlers_suite_as ?_
          refine HandSPX.lands_againZ fl3 fun h4 fl4 up4 => ?_
          have J4 : Inv X pins σ' H' { s' with heap := h4 } := J.landed nb fl4.1 ((up.trans up3).trans up4) os ag
          obtain ⟨oe4, vs4, he4, hz4, hd4⟩ := fl4.there
          have S4 := J4.suite he4 hd4 na nL nF
          refine store_ok (X := X.suite a ((a, oe4) :: (X.pn ++ pins))) (v := .ref a) S4 hN hi hloc rfl (fun s5 S5 => ?_) (.inr hln)
          refine wpAny_mono ((hsu a oe4 cls d (X.pn ++ pins) hz4 ⟨_, hd4⟩).run [] s5 _ H' _ S5 (hyes rfl a na)) (fun f s6 hsp => ?_) (fun _ _ z => False.elim z)
          have end_ : ∀ {σ6 : L2.St} {H6 : Hp} {Q : Shared → Prop}, Inv (X.suite a ((a, oe4) :: (X.pn ++ pins))) [] σ6 H6 s6 → (∀ s7, Inv X pins (σ6.set i none) H6 s7 → Q s7) →
              wpAny (model X.prog X.w) X.A (do bindName X.env n .none; unbindBehindTheSuite X.env n pos') (fun _ s7 => Q s7) X.xe s6 := fun {σ6 H6 Q} S6 hq => gone_ok (S6.unsuite ok) hN hi hln hq
          cases f with
          | next =>
            obtain ⟨σ6, H6, S6, q6⟩ := hsp
            exact end_ S6 fun s7 J7 => ⟨_, _, J7, q6⟩
          | brk =>
            obtain ⟨σ6, H6, S6, q6⟩ := hsp
            exact end_ S6 fun s7 J7 => ⟨_, _, J7, q6⟩
          | cont =>
            obtain ⟨σ6, H6, S6, q6⟩ := hsp
            exact end_ S6 fun s7 J7 => ⟨_, _, J7, q6⟩
          | ret u =>
            obtain ⟨v6, σ6, H6, S6, r6, q6⟩ := hsp
            exact end_ S6 fun s7 J7 => ⟨_, _, _, J7, r6, q6⟩
        | false =>
          show wpAny _ X.A (handleBy (.ref a) X.env hds2) _ _ _
          exact ih (hno rfl)
    exact go hh w
  · cases f with
    | next =>
      obtain ⟨σ', H', J', q⟩ := hsp
      exact wpAny_execs_nil ⟨σ', H', J'.ofTry ok, q⟩
    | brk =>
      obtain ⟨σ', H', J', q⟩ := hsp
      exact ⟨σ', H', J'.ofTry ok, q⟩
    | cont =>
      obtain ⟨σ', H', J', q⟩ := hsp
      exact ⟨σ', H', J'.ofTry ok, q⟩
    | ret u =>
      obtain ⟨v, σ', H', J', r, q⟩ := hsp
      exact ⟨v, σ', H', J'.ofTry ok, r, q⟩
end
section
variable {X : Cx} {CX : CXT} {k : Nat} {ps : List Str} {sp : Sp} {E : L2.St → XK} {x : Str} {p pos : Pos} {e : Expr} {es : List Expr} {t : TA}
theorem pe_fS (D : Def X.prog X.w X.K X.mg X.base CX k (x, none) ps sp) (hr : Room k X.A) (hm : X.mg x = some (.ref (He.ga X.K x))) (hx : ∀ σ, PassesAt CX X σ (E σ)) (ha : PA X (e :: es) t) (hg : Gl X x := by rfl) (hdb : (x == ("__debug__" : Str)) = false := by decide)
    (he : starEach (e :: es) X.env = (false, eval e X.env) :: starEach es X.env := by rfl) (hpl : (backTo pos (starEach es X.env)).any (·.1) = false := by rfl) :
    PE X (.Call (.Name x p) (e :: es) [] pos) (tCallS sp E t) :=
  let ⟨_, F, b⟩ := D.ex
  pe_callS F hr hg hm D.kp b hx ha hdb he hpl
end
end K54
set_option Elab.async false
set_option linter.all false
set_option maxRecDepth 100000
set_option maxHeartbeats 4000000
set_option pp.maxSteps 800
namespace K54
open PySem PySem.Spec PyProof.Rows L2
variable {P : Program} {w : World} {K : PySem.W.Frag} {mg : Str → Option Value} {base : Heap}
def spErr (K : PySem.W.Frag) : Sp := fun vs H Q _ => ∃ (x : V) (s : Addr) (i : Int) (m : Mach) (n : Nat) (rels : List Rl), vs = [x, .ref s, .int i] ∧ Pre K H x s m n rels ∧ ∀ H', Same H H' →
  (m.ts ≠ [] → Q (.str "bad") H') ∧ (m.ts = [] → fits m rels = false → Q (.str "misfit") H') ∧ (m.ts = [] → fits m rels = true → ¬ m.st * n ^ m.h ≤ 2000 → Q (.str "large") H') ∧ (m.ts = [] → fits m rels = true → m.st * n ^ m.h ≤ 2000 → Q (.str "") H')
theorem sc_L_error : FnScope ["_law_machine_here", "_law_structure", "_law_which", "e"] ["_law_machine_here", "_law_structure", "_law_which"] (defScope s_L_error) := ⟨rfl, rfl, rfl, by decide +kernel, rfl, by decide +kernel, by decide +kernel⟩
theorem d_L_error (T : Txt w K mg) : Def P w K mg base CX0 12 ("_law_error", none) ["_law_machine_here", "_law_structure", "_law_which"] (spErr K) := by
  refine Def.of0 (k := 11) T.f_L_error sc_L_error (fun _ _ _ _ _ _ us hl => match us, hl with | [_, _, _], _ => rfl) (fun vs H Q E h => ?_) (fun cdv A outer s H vs Q E hr h => ?_)
  · obtain ⟨x, sa, i, m, n, rels, rfl, _⟩ := h
    rfl
  · obtain ⟨x, sa, i, m, n, rels, rfl, g, q⟩ := h
    refine ⟨_, (pss_cons (ps_try_manyAs (i := 3) (l := [(.ref (He.ga K "TooLarge"), fun _ _ _ => tRet (tC (.str "large"))), (.ref (He.ga K "NotFitting"), fun _ _ _ => tRet (tC (.str "misfit"))), (.ref (He.ga K "BadArgument"), fun _ _ _ => tRet (tC (.str "bad")))]) (Wout := fun _ _ _ _ => False) rfl rfl sc_L_error.nd rfl rfl takes0
        (fun W pn xe tk _ => pss_one (ps_if (pt_cmpR op_eq (pv 2) pe_int (nomark _)) (pss_one (ps_expr (pe_fS (d_refusal T) (hr.mono (by decide)) T.g_refusal (fun σ => passAt tk σ) (pa_cons (pv 0) (pa_cons (pv 1) pa_nil)))))
          (pss_one (ps_expr (pe_fS (d_is_refusal T) (hr.mono (by decide)) T.g_is_refusal (fun σ => passAt tk σ) (pa_cons (pv 0) (pa_cons (pv 1) (pa_cons (pe_lst pa_nil) pa_nil))))))))
        (.cons ⟨rfl, by decide, .inl T.g_TooLarge⟩ (fun _ _ _ _ _ _ _ => pss_one (ps_ret pe_str)) (.cons ⟨rfl, by decide, .inl T.g_NotFitting⟩ (fun _ _ _ _ _ _ _ => pss_one (ps_ret pe_str)) (.cons ⟨rfl, by decide, .inl T.g_BadArgument⟩ (fun _ _ _ _ _ _ _ => pss_one (ps_ret pe_str)) .nil))))
      (pss_one (ps_ret pe_str))), ?_⟩
    have F : ∀ (σ : L2.St) (D : Ends) (H' : Hp), Same H H' → D.rt = Q → Fails K m n rels (WE (wManyAs K 3 (fun _ _ _ _ => False) D [(.ref (He.ga K "TooLarge"), fun _ _ _ => tRet (tC (.str "large"))), (.ref (He.ga K "NotFitting"), fun _ _ _ => tRet (tC (.str "misfit"))), (.ref (He.ga K "BadArgument"), fun _ _ _ => tRet (tC (.str "bad")))]) σ) H' := by
      rintro σ D H' s1 rfl
      refine ⟨fun h => ?_, fun h h2 => ?_, fun h h2 h3 => ?_⟩
      · refine ⟨false, T.xm_BadArgument_TooLarge, (fun z => nomatch z), fun _ => ⟨false, T.xm_BadArgument_NotFitting, (fun z => nomatch z), fun _ => ⟨true, T.xm_BadArgument_BadArgument, fun _ a na => ?_, (fun z => nomatch z)⟩⟩⟩
        exact (q H' s1).1 h
      · refine ⟨false, T.xm_NotFitting_TooLarge, (fun z => nomatch z), fun _ => ⟨true, T.xm_NotFitting_NotFitting, fun _ a na => ?_, (fun z => nomatch z)⟩⟩
        exact (q H' s1).2.1 h h2
      · refine ⟨true, T.xm_TooLarge_TooLarge, fun _ a na => ?_, (fun z => nomatch z)⟩
        exact (q H' s1).2.2.1 h h2 h3
    refine ⟨_, rfl, rfl, _, rfl, iteB (fun _ => ?_) (fun _ => ?_)⟩
    · refine ⟨_, rfl, _, rfl, x, sa, m, n, rels, rfl, g, fun H' s1 => ⟨F _ _ H' s1 rfl, fun ht hf hsm => ⟨fun _ => (q H' s1).2.2.2 ht hf hsm, fun l r _ _ _ => (q H' s1).2.2.2 ht hf hsm⟩⟩⟩
    · refine ⟨_, rfl, _, rfl, Nat.zero_le _, fun l nl => ?_⟩
      have s0 := same_upd (o := .lst []) nl
      refine ⟨x, .ref l, sa, m, n, rels, .list [], rfl, g.mono s0, .lst upd_same .nil, fun H' s1 => ⟨F _ _ H' (Same.tr s0 s1) rfl, fun ht hf hsm b _ => (q H' (Same.tr s0 s1)).2.2.2 ht hf hsm⟩⟩
end K54
set_option Elab.async false
set_option linter.all false
set_option maxRecDepth 100000
set_option maxHeartbeats 4000000
set_option pp.maxSteps 800
namespace K54
open PySem PySem.Spec PyProof.Rows L2
mutual
def nbD : PyData → Bool
  | .int _ => true
  | .list ds => nbDs ds
  | .tuple ds => nbDs ds
  | .none => false
  | .bool _ => false
  | .str _ => false
  | .dict _ => false
def nbDs : List PyData → Bool
  | [] => true
  | d :: ds => nbD d && nbDs ds
end
mutual
theorem eqv_nb : ∀ {d e : PyData}, nbD d = true → nbD e = true → PyData.eqv d e = true → d = e
  | .int i, e, _, h2, h => by
    cases e with
    | int j =>
      rw [PyData.eqv, beq_iff_eq] at h
      rw [h]
    | bool b => rw [nbD] at h2; cases h2
    | _ => rw [PyData.eqv] at h; cases h
  | .list xs, e, h1, h2, h => by
    cases e with
    | list ys =>
      rw [PyData.eqv] at h
      rw [nbD] at h1 h2
      rw [eqv_nbs h1 h2 h]
    | _ => rw [PyData.eqv] at h; cases h
  | .tuple xs, e, h1, h2, h => by
    cases e with
    | tuple ys =>
      rw [PyData.eqv] at h
      rw [nbD] at h1 h2
      rw [eqv_nbs h1 h2 h]
    | _ => rw [PyData.eqv] at h; cases h
  | .none, _, h1, _, _ => by rw [nbD] at h1; cases h1
  | .bool _, _, h1, _, _ => by rw [nbD] at h1; cases h1
  | .str _, _, h1, _, _ => by rw [nbD] at h1; cases h1
  | .dict _, _, h1, _, _ => by rw [nbD] at h1; cases h1
theorem eqv_nbs : ∀ {ds es : List PyData}, nbDs ds = true → nbDs es = true → PyData.eqvAll ds es = true → ds = es
  | [], es, _, _, h => by
    cases es with
    | nil => rfl
    | cons e es => rw [PyData.eqvAll] at h; cases h
  | d :: ds, es, h1, h2, h => by
    cases es with
    | nil => rw [PyData.eqvAll] at h; cases h
    | cons e es =>
      rw [PyData.eqvAll, Bool.and_eq_true] at h
      rw [nbDs, Bool.and_eq_true] at h1 h2
      rw [eqv_nb h1.1 h2.1 h.1, eqv_nbs h1.2 h2.2 h.2]
end
theorem nbDs_of {ds : List PyData} (h : ∀ d ∈ ds, nbD d = true) : nbDs ds = true := by
  induction ds with
  | nil => rfl
  | cons d ds ih => rw [nbDs, h d List.mem_cons_self, ih fun x hx => h x (List.mem_cons_of_mem _ hx)]; rfl
theorem nb_list {ds : List PyData} (h : ∀ d ∈ ds, nbD d = true) : nbD (.list ds) = true := by rw [nbD]; exact nbDs_of h
theorem nb_tuple {ds : List PyData} (h : ∀ d ∈ ds, nbD d = true) : nbD (.tuple ds) = true := by rw [nbD]; exact nbDs_of h
theorem nb_row {d : PyData} {n : Int} {k : Nat} (h : isRow d n k = true) : nbD d = true := by
  cases d with
  | tuple ds =>
    have h : (decide (ds.length = k) && ds.all fun x => isBelow x n) = true := h
    rw [Bool.and_eq_true] at h
    refine nb_tuple fun x hx => ?_
    obtain ⟨i, rfl⟩ := isBelow_int (List.all_eq_true.mp h.2 x hx)
    rfl
  | _ => cases h
theorem nb_conf {m : Mach} {n : Nat} {d : PyData} (h : isConf m n d = true) : nbD d = true := by
  cases d with
  | tuple ds =>
    by_cases hl : ds.length = 3
    · match ds, hl with
      | [a, b, c], _ =>
        have h : (isBelow a m.st && isRow b n m.h && isNil c) = true := h
        rw [Bool.and_eq_true, Bool.and_eq_true] at h
        obtain ⟨i, rfl⟩ := isBelow_int h.1.1
        have h2 := nb_row h.1.2
        obtain rfl := isNil_eq h.2
        refine nb_tuple fun x hx => ?_
        simp only [List.mem_cons, List.not_mem_nil, or_false] at hx
        rcases hx with rfl | rfl | rfl
        · rfl
        · exact h2
        · rfl
    · rw [isConf_len hl] at h
      cases h
  | _ => cases h
theorem nb_lv {m : Mach} {n : Nat} {d : PyData} (h : areLv m n d = true) : nbD d = true := by
  cases d with
  | list Ls =>
    refine nb_list fun x hx => ?_
    have h := List.all_eq_true.mp (show Ls.all (isLvl m n) = true from h) x hx
    cases x with
    | list cs => exact nb_list fun y hy => nb_conf (List.all_eq_true.mp (show cs.all (isConf m n) = true from h) y hy)
    | _ => cases h
  | _ => cases h
theorem isRef_iff {m : Mach} {n : Nat} {R : Nm → List Int → Bool} {r : Nat} {d : PyData} (ok : MachOk m) (n1 : 1 ≤ n) (hr : IsLv m n R r) : IsRef m n R d ↔ ¬ Accepts m n R ∧ d = .list ((lvls m n R r).map lvD) := by
  have ha := areLv_lvls (R := R) ok n1 r
  constructor
  · rintro ⟨h1, h2, r', hr', e⟩
    rw [hr'.uniq hr] at e
    exact ⟨h2, eqv_nb (nb_lv h1) (nb_lv ha) e⟩
  · rintro ⟨h, rfl⟩
    exact ⟨ha, h, r, hr, PySem.SeqAt.eqv_refl _ (layN_lv ha).1⟩
theorem wdBs_of {ds : List PyData} (h : ∀ d ∈ ds, wdB d = true) : wdBs ds = true := by
  induction ds with
  | nil => rfl
  | cons d ds ih => rw [wdBs, h d List.mem_cons_self, ih fun x hx => h x (List.mem_cons_of_mem _ hx)]; rfl
theorem wd_list {ds : List PyData} (l : ds.length ≤ 10000) (h : ∀ d ∈ ds, wdB d = true) : wdB (.list ds) = true := by rw [wdB, decide_eq_true l, wdBs_of h]; rfl
theorem wd_tuple {ds : List PyData} (l : ds.length ≤ 10000) (h : ∀ d ∈ ds, wdB d = true) : wdB (.tuple ds) = true := by rw [wdB, decide_eq_true l, wdBs_of h]; rfl
theorem wd_cf {c : Cf} (h : c.2.length ≤ 2) : wdB (cfD c) = true := by
  unfold cfD
  refine wd_tuple (by show 3 ≤ 10000; decide) fun x hx => ?_
  simp only [List.mem_cons, List.not_mem_nil, or_false] at hx
  rcases hx with rfl | rfl | rfl
  · rfl
  · refine wd_tuple (by rw [List.length_map]; omega) fun x hx => ?_
    obtain ⟨i, _, rfl⟩ := List.mem_map.mp hx
    rfl
  · rfl
theorem wd_lvls {m : Mach} {n : Nat} {R : Nm → List Int → Bool} {r : Nat} (ok : MachOk m) (n1 : 1 ≤ n) (hs : m.st * n ^ m.h ≤ 40) (hr : IsLv m n R r) : wdB (.list ((lvls m n R r).map lvD)) = true := by
  have h2 := ok.h
  have grow := LL_grow (m := m) (n := n) (R := R) hr.go r (Nat.le_refl _)
  have few := LL_few (R := R) ok n1 r
  refine wd_list (by rw [List.length_map]; unfold lvls; rw [List.length_map, List.length_range]; omega) fun x hx => ?_
  obtain ⟨L, hL, rfl⟩ := List.mem_map.mp hx
  obtain ⟨i, _, rfl⟩ := List.mem_map.mp hL
  have few := LL_few (R := R) ok n1 i
  unfold lvD
  refine wd_list (by rw [List.length_map]; omega) fun x hx => ?_
  obtain ⟨c, hc, rfl⟩ := List.mem_map.mp hx
  exact wd_cf (by rw [((LL_reach hc).ok ok n1).len]; exact h2)
theorem relHas_same {rels rels' : List Rl} (h : Paired SameRl rels rels') : relHas rels' = relHas rels := by
  funext z k
  unfold relHas
  induction h with
  | nil => rfl
  | cons a t ih =>
    rw [List.any_cons, List.any_cons, ih, a.1]
    congr 2
    exact decide_eq_decide.mpr (a.2.2.1 k)
theorem same_zs {rels rels' : List Rl} (h : Paired SameRl rels rels') : rels'.map Rl.z = rels.map Rl.z := by
  induction h with
  | nil => rfl
  | cons a t ih => rw [List.map_cons, List.map_cons, ih, a.1]
theorem same_few {rels rels' : List Rl} (h : Paired SameRl rels rels') : ∀ r ∈ rels', r.ks.length < 64 := by
  induction h with
  | nil => exact fun r hr => (nomatch hr)
  | cons a t ih =>
    intro r hr
    rcases List.mem_cons.mp hr with rfl | hr
    · exact a.2.2.2
    · exact ih r hr
theorem same_has {rels rels' : List Rl} (h : Paired SameRl rels rels') : ∀ r ∈ rels, ∃ r' ∈ rels', r'.z = r.z ∧ r'.ar = r.ar := by
  induction h with
  | nil => exact fun r hr => (nomatch hr)
  | cons a t ih =>
    intro r hr
    rcases List.mem_cons.mp hr with rfl | hr
    · exact ⟨_, List.mem_cons_self, a.1, a.2.1⟩
    · obtain ⟨r', h1, h2⟩ := ih r hr
      exact ⟨r', List.mem_cons_of_mem _ h1, h2⟩
theorem fits_same {n : Nat} {m : Mach} {rels rels' : List Rl} (ok : RelsOk n rels) (h : Paired SameRl rels rels') : fits m rels' = true := by
  unfold fits
  refine List.all_eq_true.mpr fun z _ => List.any_eq_true.mpr ?_
  have hz : z ∈ rels.map Rl.z := by rw [ok.zs]; cases z <;> decide
  obtain ⟨r, hr, rfl⟩ := List.mem_map.mp hz
  obtain ⟨r', h1, h2, h3⟩ := same_has h r hr
  exact ⟨r', h1, by rw [Bool.and_eq_true, decide_eq_true_eq, decide_eq_true_eq, h2, h3]; exact ⟨rfl, ok.ars r hr⟩⟩
theorem sees_rels {n : Nat} {m : Mach} {rels : List Rl} (ok : RelsOk n rels) : Sees m rels := fun r _ z _ _ _ => by
  have hz : z ∈ rels.map Rl.z := by rw [ok.zs]; cases z <;> decide
  obtain ⟨r, hr, e⟩ := List.mem_map.mp hz
  exact ⟨r, hr, e⟩
theorem small_of {st n h : Nat} (h1 : st ≤ 4) (h2 : n ≤ 3) (h3 : h ≤ 2) : st * n ^ h ≤ 36 := by
  have e : n ^ h ≤ 9 := Nat.le_trans (Nat.pow_le_pow_left h2 h) (by
    match h, h3 with
    | 0, _ => decide
    | 1, _ => decide
    | 2, _ => decide)
  calc st * n ^ h ≤ 4 * 9 := Nat.mul_le_mul h1 e
    _ = 36 := rfl
end K54
set_option Elab.async false
set_option linter.all false
set_option maxRecDepth 100000
set_option maxHeartbeats 4000000
set_option pp.maxSteps 800
namespace K54
open PySem PySem.Spec PyProof.Rows L2
variable {P : Program} {w : World} {K : PySem.W.Frag} {mg : Str → Option Value} {base : Heap}
def Cp (D : Addr) (H : Hp) (v u : V) : Prop := ∃ b a zs, v = .ref b ∧ u = .ref a ∧ (H b = some (.lst zs) ∨ H b = some (.tup zs)) ∧ H a = some (.lst zs) ∧ a ≠ D
theorem Cp.move {D : Addr} {H H' : Hp} {v u : V} (h : Cp D H v u) (s : ∀ a o, a ≠ D → H a = some o → H' a = some o) (hb : ∀ b, v = .ref b → b ≠ D) : Cp D H' v u := by
  obtain ⟨b, a, zs, rfl, rfl, h1, h2, n⟩ := h
  have nb := hb b rfl
  exact ⟨b, a, zs, rfl, rfl, h1.imp (s _ _ nb) (s _ _ nb), s _ _ n h2, n⟩
theorem Cp.mono {D : Addr} {H H' : Hp} {v u : V} (h : Cp D H v u) (s : Same H H') : Cp D H' v u := by
  obtain ⟨b, a, zs, rfl, rfl, h1, h2, n⟩ := h
  exact ⟨b, a, zs, rfl, rfl, h1.imp (s _ _) (s _ _), s _ _ h2, n⟩
theorem lc_copy {l : Addr} {zs : List V} {σ : L2.St} {H1 : Hp} {D : Addr} {Qd : Hp → Prop} {i0 : Nat} {vs : List Nat} (hz : H1 l = some (.lst zs)) (hl : zs.length ≤ 100) (hx : ∀ z ∈ zs, ∃ b ys, z = .ref b ∧ (H1 b = some (.lst ys) ∨ H1 b = some (.tup ys))) (nD : H1 D = none)
    (hw : ∀ x, wipe ((wipe σ vs).set i0 (some x)) vs = wipe σ vs) (hv : ∀ x, ((wipe σ vs).set i0 (some x))[i0]? = some (some x))
    (q : ∀ H' ys, Same H1 H' → H' D = some (.lst ys) → Paired (Cp D H') zs ys → Qd H') :
    ∃ W : Nat → Nat → Hp → Prop, (∃ m, W 0 m (upd H1 D (.lst []))) ∧ ∀ i m H, W i m H →
      ((Itl K l).stop i H ∧ Qd H) ∨ ((Itl K l).go i H ∧ ∃ Nx : Hp → Prop, (∀ H', Nx H' → ∃ m', m' < m ∧ W (i + 1) m' H') ∧ ∀ x H', (Itl K l).yld i H x H' → gName i0 x (wipe σ vs) H' fun σ2 H2 => wipe σ2 vs = wipe σ vs ∧ tYes σ2 H2 fun b H3 =>
        if b = true then tCB (fun xs H Q => ∃ p ys, xs = [V.ref p] ∧ (SqL K H p ys ∨ SqT K H p ys) ∧ ∀ l, H l = none → Q (.ref l) (upd H l (.lst ys))) (tCons (tVar i0) tNil) σ2 H3 fun y H4 => ∃ acc, H4 D = some (.lst acc) ∧ acc.length < sizeLine ∧ Nx (upd H4 D (.lst (acc ++ [y]))) else Nx H3) := by
  have nDz : ∀ {z b}, z ∈ zs → z = V.ref b → b ≠ D := fun {z b} hm e => by
    obtain ⟨b', ys, e', h⟩ := hx z hm
    rw [e] at e'
    cases e'
    rcases h with h | h
    · exact ne_of_none h nD
    · exact ne_of_none h nD
  refine lc_list (K := K) (a := l) (xs := zs) (fun i H2 => Same H1 H2 ∧ ∃ ys, H2 D = some (.lst ys) ∧ Paired (Cp D H2) (zs.take i) ys) ⟨same_upd nD, [], upd_same, .nil⟩ ?_ ?_ ?_
  · rintro i H2 hi ⟨s2, _⟩
    exact SqL.of (s2 _ _ hz)
  · rintro i y H2 hy ⟨s2, ys, eD, rp⟩
    have hm := List.mem_of_getElem? hy
    obtain ⟨b, us, rfl, hb⟩ := hx y hm
    have hb2 := hb.imp (s2 _ _) (s2 _ _)
    have lys := paired_len rp
    rw [List.length_take] at lys
    refine ⟨hw _, ?_⟩
    refine ⟨_, hv _, b, us, rfl, hb2.imp SqL.of SqT.of, fun a na => ?_⟩
    have s3 := same_upd (o := .lst us) na
    have eD3 := s3 _ _ eD
    have naD : a ≠ D := (ne_of_none eD na).symm
    have ea : (upd H2 a (.lst us)) a = some (.lst us) := upd_same
    generalize upd H2 a (.lst us) = H3 at s3 eD3 ea ⊢
    have k : ∀ c o, c ≠ D → H3 c = some o → (upd H3 D (.lst (ys ++ [.ref a]))) c = some o := fun c o n e => (upd_ne n).trans e
    refine ⟨ys, eD3, by rw [sizeLine_eq]; omega, fun c o e => k _ _ (ne_of_none e nD) (s3 _ _ (s2 _ _ e)), _, upd_same, ?_⟩
    rw [List.take_add_one, hy]
    have nb := nDz hm rfl
    refine Paired.snoc ?_ ⟨b, a, us, rfl, rfl, (hb2.imp (s3 _ _) (s3 _ _)).imp (k _ _ nb) (k _ _ nb), k _ _ naD ea, naD⟩
    have mv : ∀ {xs ys' : List V}, (∀ z ∈ xs, z ∈ zs) → Paired (Cp D H2) xs ys' → Paired (Cp D (upd H3 D (.lst (ys ++ [.ref a])))) xs ys' := by
      intro xs ys' hsub r
      induction r with
      | nil => exact .nil
      | cons z t ih =>
        exact .cons ((z.mono s3).move k fun b e => nDz (hsub _ List.mem_cons_self) e) (ih fun z hz => hsub z (List.mem_cons_of_mem _ hz))
    exact mv (fun z hz => List.mem_of_mem_take hz) rp
  · rintro H2 ⟨s2, ys, eD, rp⟩
    rw [List.take_length] at rp
    exact q H2 ys s2 eD rp
theorem cp_lvs {H : Hp} {ls D : Addr} {vs us : List V} {Ls : List (List Cf)} (h : Paired (LvT ls H) vs Ls) (c : Paired (Cp D H) vs us) : Paired (LvT D H) us Ls := by
  induction c generalizing Ls with
  | nil =>
    cases h
    exact .nil
  | cons z t ih =>
    cases h with
    | cons z' t' =>
      obtain ⟨b, a, zs, e1, rfl, e, ea, n⟩ := z
      obtain ⟨b', as, e2, eb, r, _⟩ := z'
      rw [e1] at e2
      cases e2
      have : zs = as.map V.ref := by
        rcases e with e | e
        · rw [eb] at e
          cases e
          rfl
        · rw [eb] at e
          cases e
      subst this
      exact .cons ⟨a, as, rfl, ea, r, n⟩ (ih t')
def CpE (H : Hp) (v : V) (e : PyData) : Prop := ∃ b zs cs, v = .ref b ∧ (H b = some (.lst zs) ∨ H b = some (.tup zs)) ∧ DvAll H zs cs ∧ e = .list cs ∧ LayN 3 e
theorem CpE.mono {H H' : Hp} {v : V} {e : PyData} (h : CpE H v e) (s : Same H H') : CpE H' v e :=
  let ⟨b, zs, cs, e1, e2, r, e3, l⟩ := h
  ⟨b, zs, cs, e1, e2.imp (s _ _) (s _ _), r.mono s, e3, l⟩
theorem itos_dv {H : Hp} : ∀ {zs : List V}, (∀ y ∈ zs, ItO H y) → ∃ cs, DvAll H zs cs ∧ ∀ c ∈ cs, LayN 2 c
  | [], _ => ⟨[], .nil, fun c h => (nomatch h)⟩
  | z :: zs, h => by
    obtain ⟨e, he, le⟩ := h z List.mem_cons_self
    obtain ⟨cs, hcs, lcs⟩ := itos_dv fun y hy => h y (List.mem_cons_of_mem _ hy)
    refine ⟨e :: cs, .cons he hcs, fun c hc => ?_⟩
    rcases List.mem_cons.mp hc with rfl | hc
    · exact le
    · exact lcs c hc
theorem lvo_cpe {H : Hp} {v : V} (h : LvO H v) : ∃ e, CpE H v e := by
  obtain ⟨a, ys, rfl, e, _, hi⟩ := h
  obtain ⟨cs, hcs, lcs⟩ := itos_dv hi
  exact ⟨.list cs, a, ys, cs, rfl, e, hcs, rfl, .list lcs⟩
theorem lvos_cpe {H : Hp} : ∀ {zs : List V}, (∀ z ∈ zs, LvO H z) → ∃ es, Paired (CpE H) zs es
  | [], _ => ⟨[], .nil⟩
  | z :: zs, h => by
    obtain ⟨e, he⟩ := lvo_cpe (h z List.mem_cons_self)
    obtain ⟨es, hes⟩ := lvos_cpe fun y hy => h y (List.mem_cons_of_mem _ hy)
    exact ⟨e :: es, .cons he hes⟩
theorem cpe_lay {H : Hp} {zs : List V} {es : List PyData} (h : Paired (CpE H) zs es) : ∀ e ∈ es, LayN 3 e := by
  induction h with
  | nil => exact fun e h => (nomatch h)
  | cons z t ih =>
    intro e he
    rcases List.mem_cons.mp he with rfl | he
    · obtain ⟨_, _, _, _, _, _, _, l⟩ := z
      exact l
    · exact ih e he
theorem cp_cpe {H : Hp} {D : Addr} {zs ys : List V} {es : List PyData} (c : Paired (Cp D H) zs ys) (h : Paired (CpE H) zs es) : DvAll H ys es := by
  induction c generalizing es with
  | nil =>
    cases h
    exact .nil
  | cons z t ih =>
    cases h with
    | cons z' t' =>
      obtain ⟨b, a, us, e1, rfl, e, ea, n⟩ := z
      obtain ⟨b', us', cs, e2, e', r, rfl, _⟩ := z'
      rw [e1] at e2
      cases e2
      have : us = us' := by
        rcases e with e | e <;> rcases e' with e' | e' <;> (rw [e] at e'; cases e'; try rfl)
      subst this
      exact .cons (.lst ea r) (ih t')
theorem lvos_dv {H : Hp} : ∀ {zs : List V}, (∀ z ∈ zs, LvO H z) → ∃ ds, DvAll H zs ds
  | [], _ => ⟨[], .nil⟩
  | z :: zs, h => by
    obtain ⟨a, ys, rfl, e, _, hi⟩ := h z List.mem_cons_self
    obtain ⟨cs, hcs, _⟩ := itos_dv hi
    obtain ⟨ds, hds⟩ := lvos_dv fun y hy => h y (List.mem_cons_of_mem _ hy)
    rcases e with e | e
    · exact ⟨.list cs :: ds, .cons (.lst e hcs) hds⟩
    · exact ⟨.tuple cs :: ds, .cons (.tup e hcs) hds⟩
theorem lso_items {H : Hp} {l : Addr} {zs : List V} (e : H l = some (.lst zs)) (h : ∀ z ∈ zs, LvO H z) : ∀ z ∈ zs, ∃ b ys, z = .ref b ∧ (H b = some (.lst ys) ∨ H b = some (.tup ys)) := fun z hz => by
  obtain ⟨a, ys, rfl, e, _⟩ := h z hz
  exact ⟨a, ys, rfl, e⟩
end K54
set_option Elab.async false
set_option linter.all false
set_option maxRecDepth 100000
set_option maxHeartbeats 4000000
set_option pp.maxSteps 800
namespace K54
open PySem PySem.Spec PyProof.Rows L2
variable {P : Program} {w : World} {K : PySem.W.Frag} {mg : Str → Option Value} {base : Heap}
theorem seq_of {t u : TS} {D : Ends} {σ : L2.St} {H : Hp} (M : L2.St → Hp → Prop) (h1 : ∀ D', (∀ σ H, M σ H → D'.nx σ H) → t D' σ H) (h2 : ∀ σ H, M σ H → u D σ H) : tSeq t u D σ H := h1 _ h2
theorem nil_of {σ : L2.St} {H : Hp} {Q : List V → Hp → Prop} (h : Q [] H) : tNil σ H Q := h
theorem gname_of {i : Nat} {v : V} {σ : L2.St} {H : Hp} {Q : L2.St → Hp → Prop} (h : Q (σ.set i (some v)) H) : gName i v σ H Q := h
def Told (m : Mach) (n : Nat) (R : Nm → List Int → Bool) (H : Hp) (u : V) : Prop := (Accepts m n R ∧ u = .non) ∨ (¬ Accepts m n R ∧ ∃ l r, u = .ref l ∧ IsLv m n R r ∧ Dv H u (.list ((lvls m n R r).map lvD)))
theorem told_of {H : Hp} {x : V} {s : Addr} {m : Mach} {n : Nat} {rels : List Rl} {Q : VK} {E : XK} (g : Pre K H x s m n rels) (ht : m.ts = []) (hf : fits m rels = true) (hs : m.st * n ^ m.h ≤ 2000)
    (h : ∀ u H', Same H H' → Told m n (relHas rels) H' u → Q u H') : spRefusal K [x, .ref s] H Q E :=
  ⟨x, s, m, n, rels, rfl, g, fun H' s1 => ⟨⟨fun z => absurd ht z, fun _ z => (by rw [hf] at z; cases z), fun _ _ z => absurd hs z⟩, fun _ _ _ => ⟨fun ha => h _ H' s1 (.inl ⟨ha, rfl⟩), fun l r hn hr hd => h _ H' s1 (.inr ⟨hn, l, r, rfl, hr, hd⟩)⟩⟩⟩
theorem isr_of {H : Hp} {x v : V} {d : PyData} {s : Addr} {m : Mach} {n : Nat} {rels : List Rl} {Q : VK} {E : XK} (g : Pre K H x s m n rels) (ht : m.ts = []) (hf : fits m rels = true) (hs : m.st * n ^ m.h ≤ 2000) (hv : Dv H v d)
    (h : ∀ b H', Same H H' → (b = true ↔ IsRef m n (relHas rels) d) → Q (.bl b) H') : spIsRef K [x, .ref s, v] H Q E :=
  ⟨x, v, s, m, n, rels, d, rfl, g, hv, fun H' s1 => ⟨⟨fun z => absurd ht z, fun _ z => (by rw [hf] at z; cases z), fun _ _ z => absurd hs z⟩, fun _ _ _ b hb => h b H' s1 hb⟩⟩
theorem Pre.monoX {H H' : Hp} {x : V} {s dr nu : Addr} {m : Mach} {n : Nat} {rels : List Rl} (g : Pre K H x s m n rels) (d : DrAt H dr nu) (k : Kx dr H H') : Pre K H' x s m n rels := by
  obtain ⟨a, c, e⟩ := d.lst
  exact ⟨Dv.monoT (d.tups k) (noL_mach m) g.mv, g.ok, g.st.monoX e k, g.nd, g.six, g.few, g.n1, g.n16⟩
theorem due_head {m : Mach} {n : Nat} {R : Nm → List Int → Bool} {r : Nat} : ∃ rest d2, PyData.list ((lvls m n R r).map lvD) = .list (.list [cfD (0, zeros m.h)] :: d2 :: rest) := by
  have e : lvls m n R r = LL m n R 0 :: LL m n R 1 :: ((List.range r).map fun i => LL m n R (i + 2)) := by
    unfold lvls
    rw [List.range_succ_eq_map, List.map_cons, List.range_succ_eq_map, List.map_cons, List.map_cons, List.map_map, List.map_map]
    rfl
  exact ⟨_, _, by rw [e, List.map_cons, List.map_cons]; rfl⟩
def spLaw (K : PySem.W.Frag) : Sp := fun vs H Q _ => ∃ (a : Addr) (ns : List Int), vs = [.ref a] ∧ SqL K H a (ns.map V.int) ∧ ns.length ≤ 63 ∧ ∀ H', Q (.bl true) H'
theorem sc_law : FnScope ["_law_script", "_law_draws", "_law_turn", "_law_machine_here", "_law_n", "_law_rels", "_law_structure", "_law_due", "_law_told", "_law_levels_here", "_law_right", "_law_kept", "_law_thing", "_law_which", "_law_edge", "_law_looks", "_law_level"] ["_law_script"] (defScope s_law) := ⟨rfl, rfl, rfl, by decide +kernel, rfl, by decide +kernel, by decide +kernel⟩
theorem fun_ok0 {x qual : Str} {params : Arguments} {body : List Stmt} {scope : Scope} {f : Addr} {fd : FuncData} {N ps : List Str} {k : Nat} {sp : Sp} (F : FunD K x qual params body scope [] [] f fd) (S : FnScope N ps scope) (len : ∀ vs H Q E, sp vs H Q E → vs.length = ps.length)
    (hb : ∀ (cdv : Value) (A : Around) (outer : List Env) (s : Shared) (H : Hp) (vs : List V) (Q : VK) (E : XK), Room k (A.deeper (envOfC qual scope s.heap.objs.size f cdv)) → sp vs H Q E → ∃ t, PSs (cxOf CX0 P w K mg base N qual scope f cdv A outer s H E).nox body t ∧ t { nx := fun _ H' => Q .non H', rt := Q } (start N vs) H) : FnOk P w K mg base CX0 (k + 1) f fd ps sp :=
  F.ok S len fun cdv A outer s H vs Q E hr h =>
    let ⟨t, a, b⟩ := hb cdv A outer s H vs Q E hr h
    ⟨t, PSs.nox a, b⟩
theorem ok_law (T : Txt w K mg) {fd : FuncData} (F : FunD K "law" "law" (defArgs s_law) (defBody s_law) (defScope s_law) [] [] (He.fAd K ("law", none)) fd) : FnOk P w K mg base CX0 13 (He.fAd K ("law", none)) fd ["_law_script"] (spLaw K) := by
  refine fun_ok0 (k := 12) F sc_law (fun vs H Q E h => ?_) (fun cdv A outer s H vs Q E hr h => ?_)
  · obtain ⟨a, ns, rfl, _⟩ := h
    rfl
  · obtain ⟨a, ns, rfl, hs, h63, q⟩ := h
    refine ⟨_, ((pss_cons (ps_set (i := 1) sc_law.nd rfl (Or.inl rfl) (pe_lst (pa_cons (pe_f (d_L_numbers T) (hr.mono (by decide)) T.g_L_numbers pass0 (pa_cons (pv 0) pa_nil)) (pa_cons pe_int pa_nil))))
       (pss_cons (ps_for PassesOwn.never rfl (pi_range1 (by rfl) T.b_range (pa_cons pe_int pa_nil)) (pg_name (i := 2) sc_law.nd rfl (Or.inl rfl))
       (pss_cons (ps_set (i := 3) sc_law.nd rfl (Or.inl rfl) (pe_f (d_L_machine T) (hr.mono (by decide)) T.g_L_machine pass0 (pa_cons (pv 1) (pa_cons pe_int (pa_cons (pe_tup pa_nil) (pa_cons (pe_op op_add pe_int (pe_op op_mod (pe_f (d_L_draw T) (hr.mono (by decide)) T.g_L_draw pass0 (pa_cons (pv 1) pa_nil)) pe_int)) (pa_cons (pe_cmpR op_eq (pe_op op_mod (pe_f (d_L_draw T) (hr.mono (by decide)) T.g_L_draw pass0 (pa_cons (pv 1) pa_nil)) pe_int) pe_int (nomark _)) pa_nil)))))))
       (pss_cons (ps_set (i := 4) sc_law.nd rfl (Or.inl rfl) (pe_op op_add pe_int (pe_op op_mod (pe_f (d_L_draw T) (hr.mono (by decide)) T.g_L_draw pass0 (pa_cons (pv 1) pa_nil)) pe_int)))
       (pss_cons (ps_set (i := 5) sc_law.nd rfl (Or.inl rfl) (pe_f (d_L_relations T) (hr.mono (by decide)) T.g_L_relations pass0 (pa_cons (pv 1) (pa_cons (pv 4) pa_nil))))
       (pss_cons (ps_set (i := 6) sc_law.nd rfl (Or.inl rfl) (pe_f (d_L_made T) (hr.mono (by decide)) T.g_L_made pass0 (pa_cons (pv 4) (pa_cons (pv 5) pa_nil))))
       (pss_cons (ps_set (i := 7) sc_law.nd rfl (Or.inl rfl) (pe_f (d_L_levels T) (hr.mono (by decide)) T.g_L_levels pass0 (pa_cons (pv 3) (pa_cons (pv 4) (pa_cons (pv 5) pa_nil)))))
       (pss_cons (ps_set (i := 8) sc_law.nd rfl (Or.inl rfl) (pe_f (d_refusal T) (hr.mono (by decide)) T.g_refusal passL (pa_cons (pv 3) (pa_cons (pv 6) pa_nil))))
       (pss_cons (ps_if (pt_val (pe_f (d_L_reaches T) (hr.mono (by decide)) T.g_L_reaches pass0 (pa_cons (pv 7) pa_nil)))
       (pss_one (ps_if (PW.pt (pw_or (pt_cmpR op_notN (pv 8) pe_non (nomark _)) (pw_or1 (pt_cmpR op_notBl (pe_f (d_is_refusal T) (hr.mono (by decide)) T.g_is_refusal passL (pa_cons (pv 3) (pa_cons (pv 6) (pa_cons (pv 7) pa_nil)))) pe_bl (nomark _)))))
       (pss_one (ps_ret pe_bl))
       pss_nil))
       (pss_one (ps_if (PW.pt (pw_or (pt_not (pt_val (pe_f (d_L_equal4 T) (hr.mono (by decide)) T.g_L_equal pass0 (pa_cons (pv 8) (pa_cons (pv 7) pa_nil))))) (pw_or1 (pt_cmpR op_notBl (pe_f (d_is_refusal T) (hr.mono (by decide)) T.g_is_refusal passL (pa_cons (pv 3) (pa_cons (pv 6) (pa_cons (pv 7) pa_nil)))) pe_bl (nomark _)))))
       (pss_one (ps_ret pe_bl))
       pss_nil)))
       (pss_cons (ps_setLc (i := 9) (own := [("_law_level", 16)]) (g := (gName 16)) (by rfl) sc_law.nd rfl rfl (sw_true rfl rfl rfl (by decide +kernel)) (pi_list (pv 7)) (blkOk_by (own := [("_law_level", 16)]) (N := ["_law_script", "_law_draws", "_law_turn", "_law_machine_here", "_law_n", "_law_rels", "_law_structure", "_law_due", "_law_told", "_law_levels_here", "_law_right", "_law_kept", "_law_thing", "_law_which", "_law_edge", "_law_looks", "_law_level"]) (sc := defScope s_law) (by decide +kernel)) (fun _ _ _ _ _ => (pg_name (i := 16) sc_law.nd rfl (Or.inl rfl) (Or.inr rfl))) (fun _ _ _ _ _ => pts_nil) (fun _ _ _ _ _ => (pe_ty (call_list_ofK (K := K) rfl) T.b_list (pa_cons (pv 16) pa_nil))))
       (pss_cons (ps_if (pt_cmpR op_gt (pe_op op_mod (pe_f (d_L_draw T) (hr.mono (by decide)) T.g_L_draw pass0 (pa_cons (pv 1) pa_nil)) pe_int) pe_int (nomark _))
       (pss_one (ps_set (i := 9) sc_law.nd rfl (Or.inl rfl) (pe_f (d_L_spoilt T) (hr.mono (by decide)) T.g_L_spoilt pass0 (pa_cons (pv 1) (pa_cons (pv 3) (pa_cons (pv 9) pa_nil))))))
       pss_nil)
       (pss_cons (ps_set (i := 10) sc_law.nd rfl (Or.inl rfl) (pe_and (pe_not (pe_f (d_L_reaches T) (hr.mono (by decide)) T.g_L_reaches pass0 (pa_cons (pv 7) pa_nil))) (pe_one (pe_f (d_L_equal4 T) (hr.mono (by decide)) T.g_L_equal pass0 (pa_cons (pv 9) (pa_cons (pv 7) pa_nil))))))
       (pss_cons (ps_setLc (i := 11) (own := [("_law_level", 16)]) (g := (gName 16)) (by rfl) sc_law.nd rfl rfl (sw_true rfl rfl rfl (by decide +kernel)) (pi_list (pv 9)) (blkOk_by (own := [("_law_level", 16)]) (N := ["_law_script", "_law_draws", "_law_turn", "_law_machine_here", "_law_n", "_law_rels", "_law_structure", "_law_due", "_law_told", "_law_levels_here", "_law_right", "_law_kept", "_law_thing", "_law_which", "_law_edge", "_law_looks", "_law_level"]) (sc := defScope s_law) (by decide +kernel)) (fun _ _ _ _ _ => (pg_name (i := 16) sc_law.nd rfl (Or.inl rfl) (Or.inr rfl))) (fun _ _ _ _ _ => pts_nil) (fun _ _ _ _ _ => (pe_ty (call_list_ofK (K := K) rfl) T.b_list (pa_cons (pv 16) pa_nil))))
       (pss_cons (ps_if (PW.pt (pw_or (pt_not (pt_val (pe_f (d_L_equal4 T) (hr.mono (by decide)) T.g_L_equal pass0 (pa_cons (pe_f (d_is_refusal T) (hr.mono (by decide)) T.g_is_refusal passL (pa_cons (pv 3) (pa_cons (pv 6) (pa_cons (pv 9) pa_nil)))) (pa_cons (pv 10) pa_nil))))) (pw_or1 (pt_cmpR (op_neD hr.units) (pe_lc (own := [("_law_level", 16)]) (g := (gName 16)) (by rfl) sc_law.nd (pi_list (pv 9)) (blkOk_by (own := [("_law_level", 16)]) (N := ["_law_script", "_law_draws", "_law_turn", "_law_machine_here", "_law_n", "_law_rels", "_law_structure", "_law_due", "_law_told", "_law_levels_here", "_law_right", "_law_kept", "_law_thing", "_law_which", "_law_edge", "_law_looks", "_law_level"]) (sc := defScope s_law) (by decide +kernel)) (fun _ _ _ _ _ => (pg_name (i := 16) sc_law.nd rfl (Or.inl rfl) (Or.inr rfl))) (fun _ _ _ _ _ => pts_nil) (fun _ _ _ _ _ => (pe_ty (call_list_ofK (K := K) rfl) T.b_list (pa_cons (pv 16) pa_nil)))) (pv 11) (nomark _)))))
       (pss_one (ps_ret pe_bl))
       pss_nil)
       (pss_cons (ps_set (i := 12) sc_law.nd rfl (Or.inl rfl) (pe_ix ix_list (pe_lst (pa_cons pe_non (pa_cons pe_int (pa_cons (pe_tup pa_nil) (pa_cons (pe_lst pa_nil) (pa_cons (pe_lst (pa_cons (pe_lst pa_nil) pa_nil)) (pa_cons pe_str (pa_cons (pe_lst (pa_cons pe_non pa_nil)) (pa_cons (pe_lst (pa_cons pe_int (pa_cons pe_int pa_nil))) (pa_cons (pe_lst (pa_cons (pe_lst (pa_cons pe_non pa_nil)) (pa_cons (pe_lst (pa_cons pe_non pa_nil)) pa_nil))) pa_nil)))))))))) (pe_op op_mod (pe_f (d_L_draw T) (hr.mono (by decide)) T.g_L_draw pass0 (pa_cons (pv 1) pa_nil)) pe_int) (fun _ _ => rfl)))
       (pss_cons (ps_if (pt_cmpR op_notBl (pe_f (d_is_refusal T) (hr.mono (by decide)) T.g_is_refusal passL (pa_cons (pv 3) (pa_cons (pv 6) (pa_cons (pv 12) pa_nil)))) pe_bl (nomark _))
       (pss_one (ps_ret pe_bl))
       pss_nil)
       (pss_cons (ps_set (i := 13) sc_law.nd rfl (Or.inl rfl) (pe_op op_mod (pe_f (d_L_draw T) (hr.mono (by decide)) T.g_L_draw pass0 (pa_cons (pv 1) pa_nil)) pe_int))
       (pss_one (ps_if (pt_cmpR op_ne (pe_f (d_L_error T) (hr.mono (by decide)) T.g_L_error pass0 (pa_cons (pe_tup (pa_cons (pe_ix ix_tup (pv 3) pe_int (fun _ _ => rfl)) (pa_cons (pe_tup (pa_cons pe_int pa_nil)) (pa_cons (pe_ix ix_tup (pv 3) pe_int (fun _ _ => rfl)) (pa_cons (pe_ix ix_tup (pv 3) pe_int (fun _ _ => rfl)) pa_nil))))) (pa_cons (pv 6) (pa_cons (pv 13) pa_nil)))) pe_str (nomark _))
       (pss_one (ps_ret pe_bl))
       pss_nil))))))))))))))))))
       (pss_cons (ps_set (i := 14) sc_law.nd rfl (Or.inl rfl) (pe_tup (pa_cons pe_int (pa_cons (pe_tup pa_nil) (pa_cons pe_int (pa_cons (pe_tup (pa_cons (pe_tup (pa_cons pe_int (pa_cons (pe_tup pa_nil) (pa_cons (pe_tup pa_nil) (pa_cons pe_int pa_nil))))) pa_nil)) pa_nil))))))
       (pss_cons (ps_if (PW.pt (pw_or (pt_cmpR op_ne (pe_f (d_L_error T) (hr.mono (by decide)) T.g_L_error pass0 (pa_cons (pv 14) (pa_cons (pe_new (d_Structure_init T) (hr.mono (by decide)) T.mk_Structure T.g_Structure pass0 (pa_cons pe_int (pa_cons (pe_lst pa_nil) pa_nil))) (pa_cons (pv 13) pa_nil)))) pe_str (nomark _)) (pw_or1 (pt_cmpR op_ne (pe_f (d_L_error T) (hr.mono (by decide)) T.g_L_error pass0 (pa_cons (pv 14) (pa_cons (pe_new (d_Structure_init T) (hr.mono (by decide)) T.mk_Structure T.g_Structure pass0 (pa_cons pe_int (pa_cons (pe_lst pa_nil) pa_nil))) (pa_cons (pv 13) pa_nil)))) pe_str (nomark _)))))
       (pss_one (ps_ret pe_bl))
       pss_nil)
       (pss_cons (ps_set (i := 15) sc_law.nd rfl (Or.inl rfl) (pe_tup (pa_cons pe_int (pa_cons (pe_tup pa_nil) (pa_cons pe_int (pa_cons (pe_tup (pa_cons (pe_tup (pa_cons pe_int (pa_cons (pe_tup (pa_cons (pe_tup (pa_cons pe_str (pa_cons pe_str (pa_cons (pe_tup (pa_cons pe_int (pa_cons pe_int pa_nil))) (pa_cons pe_bl pa_nil))))) pa_nil)) (pa_cons (pe_tup pa_nil) (pa_cons pe_int pa_nil))))) pa_nil)) pa_nil))))))
       (pss_one (ps_ret (pe_cmpR op_eq (pe_f (d_L_error T) (hr.mono (by decide)) T.g_L_error pass0 (pa_cons (pv 15) (pa_cons (pe_new (d_Structure_init T) (hr.mono (by decide)) T.mk_Structure T.g_Structure pass0 (pa_cons pe_int (pa_cons (pe_lst (pa_cons (pe_tup (pa_cons pe_str (pa_cons pe_int (pa_cons (pe_lst pa_nil) pa_nil)))) pa_nil)) pa_nil))) (pa_cons (pv 13) pa_nil)))) pe_str (nomark _)))))))))), ?_⟩
    refine ⟨_, rfl, a, ns, rfl, hs, h63, fun H1 nu ms s1 enu hmil => ⟨by show 2 ≤ sizeLine; decide, fun dr ndr => ?_⟩⟩
    have d0 : DrAt (upd H1 dr (.lst [.ref nu, .int 0])) dr nu := ⟨nu, 0, ms, upd_same, same_upd ndr _ _ enu, hmil, rfl⟩
    generalize upd H1 dr (.lst [.ref nu, .int 0]) = H2 at d0 ⊢
    refine ⟨2, rfl, by decide, by decide, for_range (n := 2) (fun t σ H' => DrAt H' dr nu ∧ ∃ v2 v3 v4 v5 v6 v7 v8 v9 v10 v11 v12 v13 v14 v15 v16, σ = [some (.ref a), some (.ref dr), v2, v3, v4, v5, v6, v7, v8, v9, v10, v11, v12, v13, v14, v15, v16] ∧ (0 < t → ∃ i, v13 = some (.int i))) ⟨d0, _, _, _, _, _, _, _, _, _, _, _, _, _, _, _, rfl, fun z => absurd z (by decide)⟩ ?_ ?_⟩
    · rintro t σ H3 ht ⟨d3, v2, v3, v4, v5, v6, v7, v8, v9, v10, v11, v12, v13, v14, v15, v16, rfl, _⟩
      refine ⟨_, rfl, Nat.zero_le _, fun tp ntp => ?_⟩
      have sa := same_upd (o := .tup []) ntp
      have d4 := d3.same sa
      have etp : (upd H3 tp (.tup [])) tp = some (.tup []) := upd_same
      generalize upd H3 tp (.tup []) = H4 at d4 etp ⊢
      refine ⟨_, rfl, dr, nu, rfl, d4, fun u1 H5 _ _ k5 d5 => ⟨_, _, rfl, rfl, by show (0 : Int) < 3; decide, _, _, rfl, rfl, ?_⟩⟩
      have etp5 := d4.tups k5 _ _ etp
      obtain ⟨st0, hst0, est⟩ := mod_nat (v := u1) (h := 3) (by decide)
      have est : (2 : Int) + u1 % 3 = ((2 + st0 : Nat) : Int) := by rw [show u1 % 3 = (st0 : Int) from est]; omega
      refine ⟨_, rfl, dr, nu, rfl, d5, fun u2 H6 _ _ k6 d6 => ⟨_, _, rfl, rfl, by show (0 : Int) < 2; decide, rfl, ?_⟩⟩
      dsimp only
      rw [est]
      refine ⟨dr, nu, tp, 2 + st0, _, rfl, d6, d5.tups k6 _ _ etp5, by omega, by omega, fun x H7 m k7 d7 hm ok ts st4 rs9 => ?_⟩
      refine ⟨_, rfl, dr, nu, rfl, d7, fun u3 H8 _ _ k8 d8 => ⟨_, _, rfl, rfl, by show (0 : Int) < 3; decide, _, _, rfl, rfl, ?_⟩⟩
      obtain ⟨n0, hn0, en⟩ := mod_nat (v := u3) (h := 3) (by decide)
      have en : (1 : Int) + u3 % 3 = ((1 + n0 : Nat) : Int) := by rw [show u3 % 3 = (n0 : Int) from en]; omega
      dsimp only
      rw [en]
      have n1 : 1 ≤ 1 + n0 := by omega
      have n3 : 1 + n0 ≤ 3 := by omega
      generalize 1 + n0 = n at n1 n3 ⊢
      have hm8 := Dv.monoT (d7.tups k8) (noL_mach m) hm
      refine ⟨_, rfl, _, rfl, dr, nu, n, rfl, d8, n1, n3, fun H9 rd rels k9 d9 lr rok => ?_⟩
      have hm9 := Dv.monoT (d8.tups k9) (noL_mach m) hm8
      refine ⟨_, rfl, _, rfl, n, rd, rels, rfl, lr, rok, n1, n3, fun H10 p rels' s10 hst hsame => ?_⟩
      have h36 := small_of (st := m.st) (n := n) (h := m.h) st4 n3 ok.h
      have small : m.st * n ^ m.h ≤ 2000 := Nat.le_trans h36 (by decide)
      have hm10 := hm9.mono s10
      have d10 := d9.same s10
      have ndz : (rels.map Rl.z).Nodup := by rw [rok.zs]; decide
      refine ⟨_, rfl, _, rfl, _, rfl, x, rd, m, n, rels, rfl, ⟨hm10, ok, ts, lr.mono s10, ndz, sees_rels rok, n1, small⟩, fun H11 ls ws r s11 hr _ els rws => ?_⟩
      have hfit := fits_same (m := m) rok hsame
      have hR := relHas_same hsame
      have pre10 : Pre K H10 x p m n rels' := ⟨hm10, ok, hst, by rw [same_zs hsame]; exact ndz, by rw [← List.length_map (f := Rl.z), same_zs hsame, rok.zs]; decide, same_few hsame, n1, by omega⟩
      have pre11 := pre10.mono s11
      have d11 := d10.same s11
      generalize hRR : relHas rels = R at hr rws hR ⊢
      have hdue11 : Dv H11 (.ref ls) (.list ((lvls m n R r).map lvD)) := .lst els (lvT_dv rws)
      have hdep : (PyData.list ((lvls m n R r).map lvD)).depth ≤ 4 := (layN_lv (areLv_lvls (R := R) ok n1 r)).2
      have hwd := wd_lvls (R := R) ok n1 (Nat.le_trans h36 (by decide)) hr
      refine ⟨_, rfl, _, rfl, ?_⟩
      refine nil_of ?_
      refine told_of pre11 ts hfit small fun u H12 s12 tu => ?_
      rw [hR] at tu
      refine gname_of ?_
      dsimp only
      refine seq_of (fun σ' H' => Same H11 H' ∧ σ' = [some (.ref a), some (.ref dr), some (.int (0 + (t : Nat))), some x, some (vInt n), some (.ref rd), some (.ref p), some (.ref ls), some u, v9, v10, v11, v12, v13, v14, v15, v16]) (fun D' hn => ?_) ?_
      · have rws12 : Paired (LvT ls H12) ws (lvls m n R r) := Paired.mapP rws fun _ _ z => z.move (fun a xs _ e => s12 _ _ e) (Same.tupS s12)
        have pre12 := pre11.mono s12
        have hdue12 := hdue11.mono s12
        refine ⟨_, rfl, ls, ws, m, n, R, r, rfl, s12 _ _ els, rws12, hr, fun b hb => ?_⟩
        cases b with
        | true =>
          have hacc := hb.mp rfl
          refine ⟨_, rfl, iteTb rfl ?_⟩
          rcases tu with ⟨_, rfl⟩ | ⟨hna, _⟩
          · refine ⟨_, rfl, rfl, _, rfl, iteFb rfl ⟨_, rfl, _, rfl, _, rfl, ?_⟩⟩
            refine nil_of ?_
            refine isr_of pre12 ts hfit small hdue12 fun b H13 s13 hb2 => ?_
            rw [hR, isRef_iff ok n1 hr] at hb2
            cases b with
            | true => exact absurd hacc (hb2.mp rfl).1
            | false => exact ⟨false, false, rfl, rfl, _, rfl, iteFb rfl (hn _ _ ⟨Same.tr s12 s13, rfl⟩)⟩
          · exact absurd hacc hna
        | false =>
          have hna : ¬ Accepts m n R := fun z => nomatch hb.mpr z
          refine ⟨_, rfl, iteFb rfl ?_⟩
          rcases tu with ⟨hacc, _⟩ | ⟨_, l, r', rfl, hr', hd⟩
          · exact absurd hacc hna
          · rw [hr'.uniq hr] at hd
            refine ⟨_, rfl, _, rfl, _, _, _, _, rfl, hd, hdue12, hdep, hwd, fun bb hbb => ⟨_, rfl, ?_⟩⟩
            cases bb with
            | false => exact nomatch hbb.mpr rfl
            | true =>
              refine iteFb rfl ⟨_, rfl, _, rfl, _, rfl, ?_⟩
              refine nil_of ?_
              refine isr_of pre12 ts hfit small hdue12 fun b H13 s13 hb2 => ?_
              rw [hR, isRef_iff ok n1 hr] at hb2
              cases b with
              | false => exact nomatch hb2.mpr ⟨hna, rfl⟩
              | true => exact ⟨true, true, rfl, rfl, _, rfl, iteFb rfl (hn _ _ ⟨Same.tr s12 s13, rfl⟩)⟩
      · rintro σ' H13 ⟨s13, rfl⟩
        have els13 := s13 _ _ els
        have rws13 : Paired (LvT ls H13) ws (lvls m n R r) := Paired.mapP rws fun _ _ z => z.move (fun a xs _ e => s13 _ _ e) (Same.tupS s13)
        have lws : ws.length = r + 2 := by rw [paired_len rws, List.length_map, List.length_range]
        have lens : ∀ L ∈ lvls m n R r, 1 ≤ L.length ∧ L.length ≤ 40 := fun L hL => by
          obtain ⟨i, _, rfl⟩ := List.mem_map.mp hL
          have := LL_few (R := R) ok n1 i
          exact ⟨List.length_pos_of_mem (LL_zero_mem i), by omega⟩
        have hrr : r + 1 ≤ 36 := by
          have grow := LL_grow (m := m) (n := n) (R := R) hr.go r (Nat.le_refl _)
          have few := LL_few (R := R) ok n1 r
          omega
        have d13 := d11.same s13
        have pre13 := pre11.mono s13
        refine ⟨_, rfl, ls, rfl, ⟨_, SqL.of els13⟩, fun D nD => lc_copy els13 (by omega) (lso_items els13 (lvs_lvo rws13 fun L hL => (lens L hL).2)) nD (fun _ => rfl) (fun _ => rfl) fun H14 lvs s14 eD cp => ?_⟩
        have d14 := d13.same s14
        have pre14 := pre13.mono s14
        have els14 := s14 _ _ els13
        have rws14 : Paired (LvT ls H14) ws (lvls m n R r) := Paired.mapP rws13 fun _ _ z => z.move (fun a xs _ e => s14 _ _ e) (Same.tupS s14)
        have cl := cp_lvs rws14 cp
        refine gname_of ?_
        dsimp only
        refine seq_of (fun σ' H' => Kx dr H14 H' ∧ DrAt H' dr nu ∧ ∃ l, LsO H' l ∧ σ' = [some (.ref a), some (.ref dr), some (.int (0 + (t : Nat))), some x, some (vInt n), some (.ref rd), some (.ref p), some (.ref ls), some u, some (.ref l), v10, v11, v12, v13, v14, v15, v16]) (fun D' hn => ?_) ?_
        · refine ⟨_, rfl, dr, nu, rfl, d14, fun u4 H15 _ _ k15 d15 => ⟨_, _, rfl, rfl, by show (0 : Int) < 3; decide, _, _, rfl, rfl, _, rfl, iteB (fun _ => ?_) (fun _ => ?_)⟩⟩
          · obtain ⟨as, has⟩ := lvs_refs cl
            have eD15 := k15 _ _ (d14.ne_refs (has ▸ eD)) eD
            exact ⟨_, rfl, _, rfl, _, rfl, dr, nu, D, x, m, lvs, lvls m n R r, rfl, d15, (pre14.monoX d14 k15).mv, by have := ok.st2; omega, eD15, lvs_kx d14 k15 cl, by rw [← paired_len cl, paired_len cl, List.length_map, List.length_range]; omega, by rw [List.length_map, List.length_range]; omega, lens, fun H16 l k16 d16 hl => hn _ _ ⟨k15.trans k16, d16, l, hl, rfl⟩⟩
          · obtain ⟨as, has⟩ := lvs_refs cl
            have eD15 := k15 _ _ (d14.ne_refs (has ▸ eD)) eD
            exact hn _ _ ⟨k15, d15, D, ⟨lvs, eD15, by rw [paired_len cl, List.length_map, List.length_range]; omega, lvs_lvo (lvs_kx d14 k15 cl) fun L hL => (lens L hL).2⟩, rfl⟩
        · rintro σ' H16 ⟨k16, d16, l, ⟨zs, ez, l100, hz⟩, rfl⟩
          have pre16 := pre14.monoX d14 k16
          obtain ⟨was, hwas⟩ := lvs_refs rws14
          have els16 := k16 _ _ (d14.ne_refs (hwas ▸ els14)) els14
          have rws16 := lvs_kx d14 k16 rws14
          have hdue16 : Dv H16 (.ref ls) (.list ((lvls m n R r).map lvD)) := .lst els16 (lvT_dv rws16)
          obtain ⟨ds, hds⟩ := lvos_dv hz
          refine seq_of (fun σ' H' => H' = H16 ∧ ∃ b : Bool, (b = true ↔ ¬ Accepts m n R ∧ PyData.list ds = .list ((lvls m n R r).map lvD)) ∧ σ' = [some (.ref a), some (.ref dr), some (.int (0 + (t : Nat))), some x, some (vInt n), some (.ref rd), some (.ref p), some (.ref ls), some u, some (.ref l), some (.bl b), v11, v12, v13, v14, v15, v16]) (fun D' hn => ?_) ?_
          · refine ⟨_, rfl, ls, ws, m, n, R, r, rfl, els16, rws16, hr, fun b1 hb1 => ⟨_, rfl, _, rfl, ?_⟩⟩
            cases b1 with
            | true => exact iteFb rfl (hn _ _ ⟨rfl, false, ⟨(fun z => nomatch z), fun z => absurd (hb1.mp rfl) z.1⟩, rfl⟩)
            | false => exact iteTb rfl ⟨_, rfl, _, rfl, _, _, _, _, rfl, .lst ez hds, hdue16, hdep, hwd, fun bb hbb => hn _ _ ⟨rfl, bb, ⟨fun z => ⟨fun y => (nomatch hb1.mpr y), hbb.mp z⟩, fun z => hbb.mpr z.2⟩, rfl⟩⟩
          · rintro σ' _ ⟨rfl, right, hright, rfl⟩
            have hright : right = true ↔ IsRef m n R (.list ds) := hright.trans (isRef_iff ok n1 hr).symm
            refine ⟨_, rfl, l, rfl, ⟨_, SqL.of ez⟩, fun D nD => lc_copy ez l100 (lso_items ez hz) nD (fun _ => rfl) (fun _ => rfl) fun H17 ys1 s17 eK cpK => ?_⟩
            refine gname_of ?_
            dsimp only
            have pre17 := pre16.mono s17
            have hz17 : ∀ z ∈ zs, LvO H17 z := fun z h => (hz z h).mono s17
            have ez17 := s17 _ _ ez
            obtain ⟨es, hes⟩ := lvos_cpe hz17
            have lay : LayN 4 (.list es) := .list (cpe_lay hes)
            have dK : Dv H17 (.ref D) (.list es) := .lst eK (cp_cpe cpK hes)
            have d17 := d16.same s17
            refine seq_of (fun σ' H' => Same H17 H' ∧ σ' = [some (.ref a), some (.ref dr), some (.int (0 + (t : Nat))), some x, some (vInt n), some (.ref rd), some (.ref p), some (.ref ls), some u, some (.ref l), some (.bl right), some (.ref D), v12, v13, v14, v15, v16]) (fun D' hn => ?_) ?_
            · refine ⟨_, rfl, _, rfl, _, rfl, ?_⟩
              refine nil_of ?_
              refine isr_of pre17 ts hfit small (.lst ez17 (hds.mono s17)) fun b H18 s18 hb => ?_
              rw [hR, ← hright] at hb
              have hbr : b = right := by
                cases b <;> cases right <;> first
                  | rfl
                  | exact nomatch hb.mp rfl
                  | exact nomatch hb.mpr rfl
              subst hbr
              refine ⟨_, rfl, _, _, _, _, rfl, .bl _, .bl _, by show 0 ≤ 4; decide, rfl, fun b2 hb2 => ⟨_, rfl, ?_⟩⟩
              cases b2 with
              | false => exact nomatch hb2.mpr rfl
              | true =>
                refine iteFb rfl ?_
                have ez18 := s18 _ _ ez17
                have hz18 : ∀ z ∈ zs, LvO H18 z := fun z h => (hz17 z h).mono s18
                refine ⟨_, rfl, l, rfl, ⟨_, SqL.of ez18⟩, fun D2 nD2 => lc_copy ez18 l100 (lso_items ez18 hz18) nD2 (fun _ => rfl) (fun _ => rfl) fun H19 ys2 s19 eD2 cp2 => ?_⟩
                have hes19 : Paired (CpE H19) zs es := Paired.mapP hes fun _ _ z => z.mono (Same.tr s18 s19)
                refine ⟨_, rfl, .list es, .list es, (Dv.lst eD2 (cp_cpe cp2 hes19)).dp, (dK.mono (Same.tr s18 s19)).dp, lay.shaped (by decide), lay.shaped (by decide), _, rfl, ?_⟩
                exact iteFb (by rw [PySem.SeqAt.eqv_refl _ lay.1]; rfl) (hn _ _ ⟨Same.tr s18 s19, rfl⟩)
            · rintro σ' H18 ⟨s18, rfl⟩
              have d18 := d17.same s18
              have pre18 := pre17.mono s18
              refine seq_of (fun σ' H' => DrAt H' dr nu ∧ Pre K H' x p m n rels' ∧ ∃ v d, Dv H' v d ∧ d ≠ .list ((lvls m n R r).map lvD) ∧ σ' = [some (.ref a), some (.ref dr), some (.int (0 + (t : Nat))), some x, some (vInt n), some (.ref rd), some (.ref p), some (.ref ls), some u, some (.ref l), some (.bl right), some (.ref D), some v, v13, v14, v15, v16]) (fun D' hn => ?_) ?_
              · refine ⟨Nat.zero_le _, fun b1 nb1 => ⟨Nat.zero_le _, fun b2 nb2 => ⟨Nat.zero_le _, fun b3 nb3 => ⟨by show 1 ≤ sizeLine; decide, fun b4 nb4 => ⟨by show 1 ≤ sizeLine; decide, fun b5 nb5 => ⟨by show 2 ≤ sizeLine; decide, fun b6 nb6 => ⟨by show 1 ≤ sizeLine; decide, fun b7 nb7 => ⟨by show 1 ≤ sizeLine; decide, fun b8 nb8 => ⟨by show 2 ≤ sizeLine; decide, fun b9 nb9 => ⟨by show 9 ≤ sizeLine; decide, fun b10 nb10 => ?_⟩⟩⟩⟩⟩⟩⟩⟩⟩⟩
                have g1 := same_upd (o := .tup []) nb1
                have g2 := same_upd (o := .lst []) nb2
                have g3 := same_upd (o := .lst []) nb3
                have g4 := same_upd (o := .lst [V.ref b3]) nb4
                have g5 := same_upd (o := .lst [V.non]) nb5
                have g6 := same_upd (o := .lst [V.int 5, V.int 5]) nb6
                have g7 := same_upd (o := .lst [V.non]) nb7
                have g8 := same_upd (o := .lst [V.non]) nb8
                have g9 := same_upd (o := .lst [V.ref b7, V.ref b8]) nb9
                have g10 := same_upd (o := .lst [V.non, V.int 5, V.ref b1, V.ref b2, V.ref b4, V.str "x", V.ref b5, V.ref b6, V.ref b9]) nb10
                have t9 := g10
                have t8 := Same.tr g9 t9
                have t7 := Same.tr g8 t8
                have t6 := Same.tr g7 t7
                have t5 := Same.tr g6 t6
                have t4 := Same.tr g5 t5
                have t3 := Same.tr g4 t4
                have t2 := Same.tr g3 t3
                have t1 := Same.tr g2 t2
                have t0 := Same.tr g1 t1
                have e1 := t1 b1 _ upd_same
                have e2 := t2 b2 _ upd_same
                have e3 := t3 b3 _ upd_same
                have e4 := t4 b4 _ upd_same
                have e5 := t5 b5 _ upd_same
                have e6 := t6 b6 _ upd_same
                have e7 := t7 b7 _ upd_same
                have e8 := t8 b8 _ upd_same
                have e9 := t9 b9 _ upd_same
                have f1 := (d18.fresh nb1).1
                have f2 := (d18.same (g1) |>.fresh nb2).1
                have f3 := (d18.same (Same.tr g1 g2) |>.fresh nb3).1
                have f4 := (d18.same (Same.tr g1 (Same.tr g2 g3)) |>.fresh nb4).1
                have f5 := (d18.same (Same.tr g1 (Same.tr g2 (Same.tr g3 g4))) |>.fresh nb5).1
                have f6 := (d18.same (Same.tr g1 (Same.tr g2 (Same.tr g3 (Same.tr g4 g5)))) |>.fresh nb6).1
                have f7 := (d18.same (Same.tr g1 (Same.tr g2 (Same.tr g3 (Same.tr g4 (Same.tr g5 g6))))) |>.fresh nb7).1
                have f8 := (d18.same (Same.tr g1 (Same.tr g2 (Same.tr g3 (Same.tr g4 (Same.tr g5 (Same.tr g6 g7)))))) |>.fresh nb8).1
                have f9 := (d18.same (Same.tr g1 (Same.tr g2 (Same.tr g3 (Same.tr g4 (Same.tr g5 (Same.tr g6 (Same.tr g7 g8))))))) |>.fresh nb9).1
                have f10 := (d18.same (Same.tr g1 (Same.tr g2 (Same.tr g3 (Same.tr g4 (Same.tr g5 (Same.tr g6 (Same.tr g7 (Same.tr g8 g9)))))))) |>.fresh nb10).1
                have e10 : (upd (upd (upd (upd (upd (upd (upd (upd (upd (upd H18 b1 (.tup [])) b2 (.lst [])) b3 (.lst [])) b4 (.lst [V.ref b3])) b5 (.lst [V.non])) b6 (.lst [V.int 5, V.int 5])) b7 (.lst [V.non])) b8 (.lst [V.non])) b9 (.lst [V.ref b7, V.ref b8])) b10 (.lst [V.non, V.int 5, V.ref b1, V.ref b2, V.ref b4, V.str "x", V.ref b5, V.ref b6, V.ref b9])) b10 = _ := upd_same
                have dG := d18.same t0
                have preG := pre18.mono t0
                generalize (upd (upd (upd (upd (upd (upd (upd (upd (upd (upd H18 b1 (.tup [])) b2 (.lst [])) b3 (.lst [])) b4 (.lst [V.ref b3])) b5 (.lst [V.non])) b6 (.lst [V.int 5, V.int 5])) b7 (.lst [V.non])) b8 (.lst [V.non])) b9 (.lst [V.ref b7, V.ref b8])) b10 (.lst [V.non, V.int 5, V.ref b1, V.ref b2, V.ref b4, V.str "x", V.ref b5, V.ref b6, V.ref b9])) = G at e1 e2 e3 e4 e5 e6 e7 e8 e9 e10 dG preG ⊢
                refine ⟨_, rfl, dr, nu, rfl, dG, fun u5 H' _ _ kk dd => ⟨_, _, rfl, rfl, by show (0 : Int) < 9; decide, ?_⟩⟩
                obtain ⟨i, hi, ei⟩ := mod_nat (v := u5) (h := 9) (by decide)
                have ei : u5 % 9 = (i : Int) := ei
                dsimp only
                rw [ei]
                replace e1 := kk _ _ f1 e1
                replace e2 := kk _ _ f2 e2
                replace e3 := kk _ _ f3 e3
                replace e4 := kk _ _ f4 e4
                replace e5 := kk _ _ f5 e5
                replace e6 := kk _ _ f6 e6
                replace e7 := kk _ _ f7 e7
                replace e8 := kk _ _ f8 e8
                replace e9 := kk _ _ f9 e9
                replace e10 := kk _ _ f10 e10
                have preH := preG.monoX dG kk
                obtain ⟨rest, d2, hdue⟩ := due_head (m := m) (n := n) (R := R) (r := r)
                have hcase : i = 0 ∨ i = 1 ∨ i = 2 ∨ i = 3 ∨ i = 4 ∨ i = 5 ∨ i = 6 ∨ i = 7 ∨ i = 8 := by omega
                rcases hcase with rfl | rfl | rfl | rfl | rfl | rfl | rfl | rfl | rfl
                · exact ⟨b10, _, _, _, rfl, rfl, SqL.of e10, atI_nat (j := 0) rfl, hn _ _ ⟨dd, preH, _, .none, .non, (by rw [hdue]; unfold cfD; intro z; cases z), rfl⟩⟩
                · exact ⟨b10, _, _, _, rfl, rfl, SqL.of e10, atI_nat (j := 1) rfl, hn _ _ ⟨dd, preH, _, .int 5, .int _, (by rw [hdue]; unfold cfD; intro z; cases z), rfl⟩⟩
                · exact ⟨b10, _, _, _, rfl, rfl, SqL.of e10, atI_nat (j := 2) rfl, hn _ _ ⟨dd, preH, _, .tuple [], .tup e1 .nil, (by rw [hdue]; unfold cfD; intro z; cases z), rfl⟩⟩
                · exact ⟨b10, _, _, _, rfl, rfl, SqL.of e10, atI_nat (j := 3) rfl, hn _ _ ⟨dd, preH, _, .list [], .lst e2 .nil, (by rw [hdue]; unfold cfD; intro z; cases z), rfl⟩⟩
                · exact ⟨b10, _, _, _, rfl, rfl, SqL.of e10, atI_nat (j := 4) rfl, hn _ _ ⟨dd, preH, _, .list [.list []], .lst e4 (.cons (.lst e3 .nil) .nil), (by rw [hdue]; unfold cfD; intro z; cases z), rfl⟩⟩
                · exact ⟨b10, _, _, _, rfl, rfl, SqL.of e10, atI_nat (j := 5) rfl, hn _ _ ⟨dd, preH, _, .str "x", .str _, (by rw [hdue]; unfold cfD; intro z; cases z), rfl⟩⟩
                · exact ⟨b10, _, _, _, rfl, rfl, SqL.of e10, atI_nat (j := 6) rfl, hn _ _ ⟨dd, preH, _, .list [.none], .lst e5 (.cons .non .nil), (by rw [hdue]; unfold cfD; intro z; cases z), rfl⟩⟩
                · exact ⟨b10, _, _, _, rfl, rfl, SqL.of e10, atI_nat (j := 7) rfl, hn _ _ ⟨dd, preH, _, .list [.int 5, .int 5], .lst e6 (.cons (.int _) (.cons (.int _) .nil)), (by rw [hdue]; unfold cfD; intro z; cases z), rfl⟩⟩
                · exact ⟨b10, _, _, _, rfl, rfl, SqL.of e10, atI_nat (j := 8) rfl, hn _ _ ⟨dd, preH, _, .list [.list [.none], .list [.none]], .lst e9 (.cons (.lst e7 (.cons .non .nil)) (.cons (.lst e8 (.cons .non .nil)) .nil)), (by rw [hdue]; unfold cfD; intro z; cases z), rfl⟩⟩
              · rintro σ' H19 ⟨d19, pre19, v, d, hv, hd, rfl⟩
                refine ⟨_, rfl, _, rfl, _, rfl, ?_⟩
                refine nil_of ?_
                refine isr_of pre19 ts hfit small hv fun b H20 s20 hb => ?_
                rw [hR, isRef_iff ok n1 hr] at hb
                have d20 := d19.same s20
                have pre20 := pre19.mono s20
                cases b with
                | true => exact absurd (hb.mp rfl).2 hd
                | false =>
                  refine ⟨false, false, rfl, rfl, _, rfl, iteFb rfl ?_⟩
                  refine ⟨_, rfl, dr, nu, rfl, d20, fun u5 H21 _ _ k21 d21 => ⟨_, _, rfl, rfl, by show (0 : Int) < 2; decide, ?_⟩⟩
                  have pre21 := pre20.monoX d20 k21
                  obtain ⟨xa, c, dd, ys, rfl, em1, em2, em3, em4⟩ := mach_inv pre21.mv
                  refine gname_of ?_
                  dsimp only
                  refine ⟨_, rfl, _, _, (0 : Int), _, rfl, rfl, SqT.of em1, rfl, by show 1 ≤ sizeLine; decide, fun c1 nc1 => ?_⟩
                  have s22 := same_upd (o := .tup [.int 1]) nc1
                  have ec1 : (upd H21 c1 (.tup [.int 1])) c1 = some (.tup [.int 1]) := upd_same
                  generalize upd H21 c1 (.tup [.int 1]) = H22 at s22 ec1 ⊢
                  refine ⟨_, rfl, _, _, (2 : Int), _, rfl, rfl, SqT.of (s22 _ _ em1), rfl, _, rfl, _, _, (3 : Int), _, rfl, rfl, SqT.of (s22 _ _ em1), rfl, by show 4 ≤ sizeLine; decide, fun c2 nc2 => ?_⟩
                  have s23 := same_upd (o := .tup [vInt m.h, .ref c1, vInt m.st, .ref dd]) nc2
                  have ec2 : (upd H22 c2 (.tup [vInt m.h, .ref c1, vInt m.st, .ref dd])) c2 = _ := upd_same
                  have pre23 := (pre21.mono s22).mono s23
                  have s2223 := Same.tr s22 s23
                  have ec1' := s23 _ _ ec1
                  generalize upd H22 c2 (.tup [vInt m.h, .ref c1, vInt m.st, .ref dd]) = H23 at s2223 ec2 pre23 ec1' ⊢
                  refine ⟨_, rfl, _, rfl, .ref c2, p, _, ⟨m.h, [1], m.st, m.rs⟩, n, rels', rfl, ⟨.tup ec2 (.cons (.int _) (.cons (.tup ec1' (.cons (.int _) .nil)) (.cons (.int _) (.cons (.tup (s2223 _ _ em3) (em4.mono s2223)) .nil)))), ⟨ok.h, by show 1 ≤ 1; decide, fun t ht => by rw [List.mem_singleton.mp ht]; decide, ok.st2, ok.st, ok.nrs, ok.rs⟩, pre23.st, pre23.nd, pre23.six, pre23.few, pre23.n1, pre23.n16⟩, fun H24 s24 => ⟨fun _ => ?_, fun z => (nomatch z), fun z => (nomatch z), fun z => (nomatch z)⟩⟩
                  refine ⟨rfl, _, rfl, iteFb rfl ?_⟩
                  exact ⟨(d21.same s2223).same s24, _, _, _, _, _, _, _, _, _, _, _, _, _, _, _, rfl, fun _ => ⟨_, rfl⟩⟩
    · rintro σ H3 ⟨d3, v2, v3, v4, v5, v6, v7, v8, v9, v10, v11, v12, v13, v14, v15, v16, rfl, hw⟩
      obtain ⟨i, rfl⟩ := hw (by decide)
      refine ⟨Nat.zero_le _, fun c1 nc1 => ⟨Nat.zero_le _, fun c2 nc2 => ⟨Nat.zero_le _, fun c3 nc3 => ⟨by show 4 ≤ sizeLine; decide, fun c4 nc4 => ⟨by show 1 ≤ sizeLine; decide, fun c5 nc5 => ⟨by show 4 ≤ sizeLine; decide, fun c6 nc6 => ?_⟩⟩⟩⟩⟩⟩
      have g1 := same_upd (o := .tup []) nc1
      have g2 := same_upd (o := .tup []) nc2
      have g3 := same_upd (o := .tup []) nc3
      have g4 := same_upd (o := .tup [V.int 0, V.ref c2, V.ref c3, V.int 0]) nc4
      have g5 := same_upd (o := .tup [V.ref c4]) nc5
      have g6 := same_upd (o := .tup [V.int 2, V.ref c1, V.int 20, V.ref c5]) nc6
      have t5 := g6
      have t4 := Same.tr g5 t5
      have t3 := Same.tr g4 t4
      have t2 := Same.tr g3 t3
      have t1 := Same.tr g2 t2
      have t0 := Same.tr g1 t1
      have e1 := t1 c1 _ upd_same
      have e2 := t2 c2 _ upd_same
      have e3 := t3 c3 _ upd_same
      have e4 := t4 c4 _ upd_same
      have e5 := t5 c5 _ upd_same
      have e6 : (upd (upd (upd (upd (upd (upd H3 c1 (.tup [])) c2 (.tup [])) c3 (.tup [])) c4 (.tup [V.int 0, V.ref c2, V.ref c3, V.int 0])) c5 (.tup [V.ref c4])) c6 (.tup [V.int 2, V.ref c1, V.int 20, V.ref c5])) c6 = _ := upd_same
      have mv : Dv (upd (upd (upd (upd (upd (upd H3 c1 (.tup [])) c2 (.tup [])) c3 (.tup [])) c4 (.tup [V.int 0, V.ref c2, V.ref c3, V.int 0])) c5 (.tup [V.ref c4])) c6 (.tup [V.int 2, V.ref c1, V.int 20, V.ref c5])) (.ref c6) (machD ⟨2, [], 20, [⟨0, [], [], 0⟩]⟩) := .tup e6 (.cons (.int _) (.cons (.tup e1 .nil) (.cons (.int _) (.cons (.tup e5 (.cons (.tup e4 (.cons (.int _) (.cons (.tup e2 .nil) (.cons (.tup e3 .nil) (.cons (.int _) .nil))))) .nil)) .nil))))
      have mok : MachOk ⟨2, [], 20, [⟨0, [], [], 0⟩]⟩ := ⟨by decide, by decide, fun t h => (nomatch h), by decide, by decide, by decide, fun r h => by rw [List.mem_singleton.mp h]; exact ⟨by decide, by decide, by decide, by decide, by decide, fun c h => (nomatch h), fun c h => (nomatch h)⟩⟩
      clear g1 g2 g3 g4 g5 g6 t0 t1 t2 t3 t4 t5 e1 e2 e3 e4 e5 e6
      generalize (upd (upd (upd (upd (upd (upd H3 c1 (.tup [])) c2 (.tup [])) c3 (.tup [])) c4 (.tup [V.int 0, V.ref c2, V.ref c3, V.int 0])) c5 (.tup [V.ref c4])) c6 (.tup [V.int 2, V.ref c1, V.int 20, V.ref c5])) = G at mv ⊢
      refine gname_of ?_
      dsimp only
      refine ⟨_, rfl, Nat.zero_le _, fun lA nlA => ?_⟩
      have sA := same_upd (o := .lst []) nlA
      have elA : (upd G lA (.lst [])) lA = some (.lst []) := upd_same
      have mvA := mv.mono sA
      generalize upd G lA (.lst []) = HA1 at sA elA mvA ⊢
      intro pA dxA nppA ndxA ndpA
      have sA5 : Same HA1 (upd (upd HA1 dxA (.own pA)) pA (.ins (He.ga K "Structure") dxA [])) := Same.tr (same_upd ndxA) (same_upd (by rw [upd_ne ndpA.symm]; exact nppA))
      refine ⟨pA, dxA, lA, 10, [], [], rfl, upd_same, sA5 _ _ elA, .nil, (fun r h => nomatch h), List.nodup_nil, Nat.zero_le _, by decide, by decide, fun HA6 relsA kA6 stA6 prA => ⟨rfl, ?_⟩⟩
      cases prA
      have mvA6 := Dv.monoT (kA6.tups upd_same (by intro ys z; cases z)) (noL_mach _) (mvA.mono sA5)
      refine ⟨_, rfl, .ref c6, pA, i, ⟨2, [], 20, [⟨0, [], [], 0⟩]⟩, 10, [], rfl, ⟨mvA6, mok, stA6, List.nodup_nil, Nat.zero_le _, (fun r h => nomatch h), by decide, by decide⟩, fun HA7 sA7 => ⟨fun z => absurd rfl z, fun _ z => (nomatch z), fun _ _ z => absurd (by decide) z, fun _ _ _ => ?_⟩⟩
      replace mv := mvA6.mono sA7
      refine ⟨rfl, _, rfl, iteFb rfl ?_⟩
      refine ⟨_, rfl, Nat.zero_le _, fun lB nlB => ?_⟩
      have sB := same_upd (o := .lst []) nlB
      have elB : (upd HA7 lB (.lst [])) lB = some (.lst []) := upd_same
      have mvB := mv.mono sB
      generalize upd HA7 lB (.lst []) = HB1 at sB elB mvB ⊢
      intro pB dxB nppB ndxB ndpB
      have sB5 : Same HB1 (upd (upd HB1 dxB (.own pB)) pB (.ins (He.ga K "Structure") dxB [])) := Same.tr (same_upd ndxB) (same_upd (by rw [upd_ne ndpB.symm]; exact nppB))
      refine ⟨pB, dxB, lB, 11, [], [], rfl, upd_same, sB5 _ _ elB, .nil, (fun r h => nomatch h), List.nodup_nil, Nat.zero_le _, by decide, by decide, fun HB6 relsB kB6 stB6 prB => ⟨rfl, ?_⟩⟩
      cases prB
      have mvB6 := Dv.monoT (kB6.tups upd_same (by intro ys z; cases z)) (noL_mach _) (mvB.mono sB5)
      refine ⟨_, rfl, .ref c6, pB, i, ⟨2, [], 20, [⟨0, [], [], 0⟩]⟩, 11, [], rfl, ⟨mvB6, mok, stB6, List.nodup_nil, Nat.zero_le _, (fun r h => nomatch h), by decide, by decide⟩, fun HB7 sB7 => ⟨fun z => absurd rfl z, fun _ z => (nomatch z), fun _ _ _ => ?_, fun _ _ z => absurd z (by decide)⟩⟩
      replace mv := mvB6.mono sB7
      refine ⟨rfl, _, rfl, iteFb rfl ?_⟩
      clear mv
      generalize HB7 = G2
      refine ⟨Nat.zero_le _, fun c1 nc1 => ⟨by show 2 ≤ sizeLine; decide, fun c2 nc2 => ⟨by show 4 ≤ sizeLine; decide, fun c3 nc3 => ⟨by show 1 ≤ sizeLine; decide, fun c4 nc4 => ⟨Nat.zero_le _, fun c5 nc5 => ⟨by show 4 ≤ sizeLine; decide, fun c6 nc6 => ⟨by show 1 ≤ sizeLine; decide, fun c7 nc7 => ⟨by show 4 ≤ sizeLine; decide, fun c8 nc8 => ?_⟩⟩⟩⟩⟩⟩⟩⟩
      have g1 := same_upd (o := .tup []) nc1
      have g2 := same_upd (o := .tup [V.int 0, V.int 0]) nc2
      have g3 := same_upd (o := .tup [V.str "rel", V.str "e", V.ref c2, V.bl true]) nc3
      have g4 := same_upd (o := .tup [V.ref c3]) nc4
      have g5 := same_upd (o := .tup []) nc5
      have g6 := same_upd (o := .tup [V.int 0, V.ref c4, V.ref c5, V.int 1]) nc6
      have g7 := same_upd (o := .tup [V.ref c6]) nc7
      have g8 := same_upd (o := .tup [V.int 1, V.ref c1, V.int 2, V.ref c7]) nc8
      have t7 := g8
      have t6 := Same.tr g7 t7
      have t5 := Same.tr g6 t6
      have t4 := Same.tr g5 t5
      have t3 := Same.tr g4 t4
      have t2 := Same.tr g3 t3
      have t1 := Same.tr g2 t2
      have t0 := Same.tr g1 t1
      have e1 := t1 c1 _ upd_same
      have e2 := t2 c2 _ upd_same
      have e3 := t3 c3 _ upd_same
      have e4 := t4 c4 _ upd_same
      have e5 := t5 c5 _ upd_same
      have e6 := t6 c6 _ upd_same
      have e7 := t7 c7 _ upd_same
      have e8 : (upd (upd (upd (upd (upd (upd (upd (upd G2 c1 (.tup [])) c2 (.tup [V.int 0, V.int 0])) c3 (.tup [V.str "rel", V.str "e", V.ref c2, V.bl true])) c4 (.tup [V.ref c3])) c5 (.tup [])) c6 (.tup [V.int 0, V.ref c4, V.ref c5, V.int 1])) c7 (.tup [V.ref c6])) c8 (.tup [V.int 1, V.ref c1, V.int 2, V.ref c7])) c8 = _ := upd_same
      have mv : Dv (upd (upd (upd (upd (upd (upd (upd (upd G2 c1 (.tup [])) c2 (.tup [V.int 0, V.int 0])) c3 (.tup [V.str "rel", V.str "e", V.ref c2, V.bl true])) c4 (.tup [V.ref c3])) c5 (.tup [])) c6 (.tup [V.int 0, V.ref c4, V.ref c5, V.int 1])) c7 (.tup [V.ref c6])) c8 (.tup [V.int 1, V.ref c1, V.int 2, V.ref c7])) (.ref c8) (machD ⟨1, [], 2, [⟨0, [.rel .e [0, 0] true], [], 1⟩]⟩) := .tup e8 (.cons (.int _) (.cons (.tup e1 .nil) (.cons (.int _) (.cons (.tup e7 (.cons (.tup e6 (.cons (.int _) (.cons (.tup e4 (.cons (.tup e3 (.cons (.str _) (.cons (.str _) (.cons (.tup e2 (.cons (.int _) (.cons (.int _) .nil))) (.cons (.bl _) .nil))))) .nil)) (.cons (.tup e5 .nil) (.cons (.int _) .nil))))) .nil)) .nil))))
      have mok2 : MachOk ⟨1, [], 2, [⟨0, [.rel .e [0, 0] true], [], 1⟩]⟩ := ⟨by decide, by decide, fun t h => (nomatch h), by decide, by decide, by decide, fun r h => by rw [List.mem_singleton.mp h]; exact ⟨by decide, by decide, by decide, by decide, by decide, fun c h => (by rw [List.mem_singleton.mp h]; exact ⟨rfl, by decide⟩), fun c h => (nomatch h)⟩⟩
      generalize (upd (upd (upd (upd (upd (upd (upd (upd G2 c1 (.tup [])) c2 (.tup [V.int 0, V.int 0])) c3 (.tup [V.str "rel", V.str "e", V.ref c2, V.bl true])) c4 (.tup [V.ref c3])) c5 (.tup [])) c6 (.tup [V.int 0, V.ref c4, V.ref c5, V.int 1])) c7 (.tup [V.ref c6])) c8 (.tup [V.int 1, V.ref c1, V.int 2, V.ref c7])) = G3 at mv ⊢
      refine gname_of ?_
      dsimp only
      refine ⟨_, rfl, Nat.zero_le _, fun lC nlC => ⟨by show 3 ≤ sizeLine; decide, fun tC ntC => ⟨by show 1 ≤ sizeLine; decide, fun lD nlD => ?_⟩⟩⟩
      have h1 := same_upd (o := .lst []) nlC
      have h2 := same_upd (o := .tup [V.str "e", V.int 1, V.ref lC]) ntC
      have h3 := same_upd (o := .lst [V.ref tC]) nlD
      have w1 : RawT (upd (upd (upd G3 lC (.lst [])) tC (.tup [V.str "e", V.int 1, V.ref lC])) lD (.lst [V.ref tC])) (.ref tC) ⟨.e, 1, []⟩ := ⟨tC, lC, [], rfl, h3 _ _ upd_same, h3 _ _ (h2 _ _ upd_same), .nil⟩
      have elD : (upd (upd (upd G3 lC (.lst [])) tC (.tup [V.str "e", V.int 1, V.ref lC])) lD (.lst [V.ref tC])) lD = some (.lst [V.ref tC]) := upd_same
      have mvC := mv.mono (Same.tr h1 (Same.tr h2 h3))
      generalize (upd (upd (upd G3 lC (.lst [])) tC (.tup [V.str "e", V.int 1, V.ref lC])) lD (.lst [V.ref tC])) = HC1 at w1 elD mvC ⊢
      intro pC dxC nppC ndxC ndpC
      have sC5 : Same HC1 (upd (upd HC1 dxC (.own pC)) pC (.ins (He.ga K "Structure") dxC [])) := Same.tr (same_upd ndxC) (same_upd (by rw [upd_ne ndpC.symm]; exact nppC))
      refine ⟨pC, dxC, lD, 2, _, [⟨.e, 1, []⟩], rfl, upd_same, sC5 _ _ elD, .cons (w1.mono sC5) .nil, (fun r h => by rw [List.mem_singleton.mp h]; exact ⟨by decide, by decide, fun k h => (nomatch h)⟩), by decide, by decide, by decide, by decide, fun HC6 relsC kC6 stC6 prC => ⟨rfl, ?_⟩⟩
      have mvC6 := Dv.monoT (kC6.tups upd_same (by intro ys z; cases z)) (noL_mach _) (mvC.mono sC5)
      have zsC := same_zs prC
      have fewC := same_few prC
      have fitC : fits ⟨1, [], 2, [⟨0, [.rel .e [0, 0] true], [], 1⟩]⟩ relsC = false := by
        cases prC with
        | cons z t =>
          cases t
          obtain ⟨z1, z2, _⟩ := z
          show (([Nm.e] : List Nm).all fun z => _) = false
          rw [List.all_cons, List.any_cons, List.any_nil, z1, z2]
          rfl
      refine ⟨_, rfl, .ref c8, pC, i, ⟨1, [], 2, [⟨0, [.rel .e [0, 0] true], [], 1⟩]⟩, 2, relsC, rfl, ⟨mvC6, mok2, stC6, by rw [zsC]; decide, by rw [← List.length_map (f := Rl.z), zsC]; decide, fewC, by decide, by decide⟩, fun HC7 sC7 => ⟨fun z => absurd rfl z, fun _ _ => ?_, fun _ z => (by rw [fitC] at z; cases z), fun _ z => (by rw [fitC] at z; cases z)⟩⟩
      exact ⟨rfl, q _⟩
end K54
set_option Elab.async false
set_option linter.all false
set_option maxRecDepth 100000
set_option maxHeartbeats 0
set_option pp.maxSteps 800
namespace K54
open PySem PySem.Spec PyProof.Rows L2
open Hd
theorem txt_of {w : World} {K : PySem.W.Frag} {h : Heap} {mg : Str → Option Value} (X : K.In h) (G : h.Ns mainGlobals mg) (c0 : He.SaysT fa fn ts w K) (m : more K = true) : Txt w K mg := by
  have c := c0.d
  obtain ⟨m1, m2⟩ := He.ba m
  obtain ⟨m3, m4⟩ := He.ba m2
  have vt : ∀ (a : Addr) (x : Str) (i : Int), (∃ u, PySem.W.nsIn K a x = some (some u) ∧ RelV (.int i) u) → ∃ t, PySem.W.nsIn K a x = some (some (.int i t)) := by
    rintro a x i ⟨u, e, t, rfl⟩
    exact ⟨t, e⟩
  exact {
    g_is_integer := He.glo_ok X G (c.fact 0 (f := .glo "is_integer") rfl)
    g_is_below := He.glo_ok X G (c.fact 1 (f := .glo "is_below") rfl)
    g_power := He.glo_ok X G (c.fact 2 (f := .glo "power") rfl)
    g_is_name := He.glo_ok X G (c.fact 3 (f := .glo "is_name") rfl)
    g_is_row := He.glo_ok X G (c.fact 4 (f := .glo "is_row") rfl)
    g_checked := He.glo_ok X G (c.fact 5 (f := .glo "checked") rfl)
    g_are_heads := He.glo_ok X G (c.fact 6 (f := .glo "are_heads") rfl)
    g_is_condition := He.glo_ok X G (c.fact 7 (f := .glo "is_condition") rfl)
    g_is_action := He.glo_ok X G (c.fact 8 (f := .glo "is_action") rfl)
    g_check_rule := He.glo_ok X G (c.fact 9 (f := .glo "check_rule") rfl)
    g_looked_at := He.glo_ok X G (c.fact 10 (f := .glo "looked_at") rfl)
    g_machine_symbols := He.glo_ok X G (c.fact 11 (f := .glo "machine_symbols") rfl)
    g_by_state := He.glo_ok X G (c.fact 12 (f := .glo "by_state") rfl)
    g_check_symbols := He.glo_ok X G (c.fact 13 (f := .glo "check_symbols") rfl)
    g_first_configuration := He.glo_ok X G (c.fact 14 (f := .glo "first_configuration") rfl)
    g_is_configuration := He.glo_ok X G (c.fact 15 (f := .glo "is_configuration") rfl)
    g_check_headed := He.glo_ok X G (c.fact 16 (f := .glo "check_headed") rfl)
    g_check_places := He.glo_ok X G (c.fact 17 (f := .glo "check_places") rfl)
    g_followed := He.glo_ok X G (c.fact 18 (f := .glo "followed") rfl)
    g_reached := He.glo_ok X G (c.fact 19 (f := .glo "reached") rfl)
    g_levels_of := He.glo_ok X G (c.fact 20 (f := .glo "levels_of") rfl)
    g_refusal := He.glo_ok X G (c.fact 21 (f := .glo "refusal") rfl)
    g_are_levels := He.glo_ok X G (c.fact 22 (f := .glo "are_levels") rfl)
    g_is_refusal := He.glo_ok X G (c.fact 23 (f := .glo "is_refusal") rfl)
    g_L_mixed := He.glo_ok X G (c.fact 24 (f := .glo "_law_mixed") rfl)
    g_L_numbers := He.glo_ok X G (c.fact 25 (f := .glo "_law_numbers") rfl)
    g_L_draw := He.glo_ok X G (c.fact 26 (f := .glo "_law_draw") rfl)
    g_L_equal := He.glo_ok X G (c.fact 27 (f := .glo "_law_equal") rfl)
    g_L_all_equal := He.glo_ok X G (c.fact 28 (f := .glo "_law_all_equal") rfl)
    g_L_relation := He.glo_ok X G (c.fact 29 (f := .glo "_law_relation") rfl)
    g_L_all_rows := He.glo_ok X G (c.fact 30 (f := .glo "_law_all_rows") rfl)
    g_L_relations := He.glo_ok X G (c.fact 31 (f := .glo "_law_relations") rfl)
    g_L_made := He.glo_ok X G (c.fact 32 (f := .glo "_law_made") rfl)
    g_L_condition := He.glo_ok X G (c.fact 33 (f := .glo "_law_condition") rfl)
    g_L_action := He.glo_ok X G (c.fact 34 (f := .glo "_law_action") rfl)
    g_L_turned := He.glo_ok X G (c.fact 35 (f := .glo "_law_turned") rfl)
    g_L_rule := He.glo_ok X G (c.fact 36 (f := .glo "_law_rule") rfl)
    g_L_rules := He.glo_ok X G (c.fact 37 (f := .glo "_law_rules") rfl)
    g_L_machine := He.glo_ok X G (c.fact 38 (f := .glo "_law_machine") rfl)
    g_L_test := He.glo_ok X G (c.fact 39 (f := .glo "_law_test") rfl)
    g_L_act := He.glo_ok X G (c.fact 40 (f := .glo "_law_act") rfl)
    g_L_by_state := He.glo_ok X G (c.fact 41 (f := .glo "_law_by_state") rfl)
    g_L_all_hold := He.glo_ok X G (c.fact 42 (f := .glo "_law_all_hold") rfl)
    g_L_after := He.glo_ok X G (c.fact 43 (f := .glo "_law_after") rfl)
    g_L_next := He.glo_ok X G (c.fact 44 (f := .glo "_law_next") rfl)
    g_L_first := He.glo_ok X G (c.fact 45 (f := .glo "_law_first") rfl)
    g_L_levels := He.glo_ok X G (c.fact 46 (f := .glo "_law_levels") rfl)
    g_L_reaches := He.glo_ok X G (c.fact 47 (f := .glo "_law_reaches") rfl)
    g_L_spoilt := He.glo_ok X G (c.fact 48 (f := .glo "_law_spoilt") rfl)
    g_L_error := He.glo_ok X G (c.fact 49 (f := .glo "_law_error") rfl)
    g_law := He.glo_ok X G (c.fact 50 (f := .glo "law") rfl)
    g_Structure := He.glo_ok X G (c.fact 51 (f := .glo "Structure") rfl)
    g_Place := He.glo_ok X G (c.fact 52 (f := .glo "Place") rfl)
    g_BadArgument := He.glo_ok X G (c.fact 53 (f := .glo "BadArgument") rfl)
    g_NotFitting := He.glo_ok X G (c.fact 54 (f := .glo "NotFitting") rfl)
    g_TooLarge := He.glo_ok X G (c.fact 55 (f := .glo "TooLarge") rfl)
    g_WORDS_structures := He.glo_ok X G (c.fact 56 (f := .glo "WORDS_structures") rfl)
    g_CONDITIONS := He.glo_ok X G (c.fact 57 (f := .glo "CONDITIONS") rfl)
    g_ACTIONS := He.glo_ok X G (c.fact 58 (f := .glo "ACTIONS") rfl)
    b_isinstance := He.free_ok X G (c.fact 59 (f := .free "isinstance") rfl)
    b_int := He.free_ok X G (c.fact 60 (f := .free "int") rfl)
    b_bool := He.free_ok X G (c.fact 61 (f := .free "bool") rfl)
    b_str := He.free_ok X G (c.fact 62 (f := .free "str") rfl)
    b_tuple := He.free_ok X G (c.fact 63 (f := .free "tuple") rfl)
    b_list := He.free_ok X G (c.fact 64 (f := .free "list") rfl)
    b_len := He.free_ok X G (c.fact 65 (f := .free "len") rfl)
    b_range := He.free_ok X G (c.fact 66 (f := .free "range") rfl)
    b_sorted := He.free_ok X G (c.fact 67 (f := .free "sorted") rfl)
    b_set := He.free_ok X G (c.fact 68 (f := .free "set") rfl)
    b_enumerate := He.free_ok X G (c.fact 69 (f := .free "enumerate") rfl)
    b_zip := He.free_ok X G (c.fact 70 (f := .free "zip") rfl)
    b_all := He.free_ok X G (c.fact 71 (f := .free "all") rfl)
    i_LONGEST := He.int_ok X G (c.fact 72 (f := .int "LONGEST" 12) rfl)
    i_LARGEST := He.int_ok X G (c.fact 73 (f := .int "LARGEST" 16) rfl)
    i_RELATIONS := He.int_ok X G (c.fact 74 (f := .int "RELATIONS" 6) rfl)
    i_PLACES := He.int_ok X G (c.fact 75 (f := .int "PLACES" 6) rfl)
    i_TUPLES := He.int_ok X G (c.fact 76 (f := .int "TUPLES" 4096) rfl)
    i_HEADS := He.int_ok X G (c.fact 77 (f := .int "HEADS" 12) rfl)
    i_TAPES := He.int_ok X G (c.fact 78 (f := .int "TAPES" 6) rfl)
    i_STATES := He.int_ok X G (c.fact 79 (f := .int "STATES" 4000) rfl)
    i_RULES := He.int_ok X G (c.fact 80 (f := .int "RULES" 12000) rfl)
    i_WORDS_machines := He.int_ok X G (c.fact 81 (f := .int "WORDS_machines" 12) rfl)
    i_ACCEPTING := He.int_ok X G (c.fact 82 (f := .int "ACCEPTING" 1) rfl)
    i_FEWER := He.int_ok X G (c.fact 83 (f := .int "FEWER" 2000) rfl)
    t_LETTERS := He.str_ok X G (c.fact 84 (f := .str "LETTERS" "abcdefghijklmnopqrstuvwxyz") rfl)
    t_FIGURES := He.str_ok X G (c.fact 85 (f := .str "FIGURES" "0123456789") rfl)
    c_Structure := He.cls_ok (c.fact 86 (f := .cls "Structure") rfl)
    mk_Structure := He.mkr_ok (c.fact 87 (f := .mkr "Structure") rfl)
    n_Structure_size := He.noat_ok (c.fact 88 (f := .noat "Structure" "size") rfl)
    n_Structure_relations := He.noat_ok (c.fact 89 (f := .noat "Structure" "relations") rfl)
    m_Structure_symbols := He.meth_ok (c.fact 90 (f := .meth "Structure" "symbols") rfl)
    c_Place := He.cls_ok (c.fact 91 (f := .cls "Place") rfl)
    mk_Place := He.mkr_ok (c.fact 92 (f := .mkr "Place") rfl)
    n_Place_size := He.noat_ok (c.fact 93 (f := .noat "Place" "size") rfl)
    n_Place_rules := He.noat_ok (c.fact 94 (f := .noat "Place" "rules") rfl)
    n_Place_relations := He.noat_ok (c.fact 95 (f := .noat "Place" "relations") rfl)
    n_Place_state := He.noat_ok (c.fact 96 (f := .noat "Place" "state") rfl)
    n_Place_heads := He.noat_ok (c.fact 97 (f := .noat "Place" "heads") rfl)
    n_Place_marks := He.noat_ok (c.fact 98 (f := .noat "Place" "marks") rfl)
    m_Place_load := He.meth_ok (c.fact 99 (f := .meth "Place" "load") rfl)
    m_Place_true := He.meth_ok (c.fact 100 (f := .meth "Place" "true") rfl)
    m_Place_moved := He.meth_ok (c.fact 101 (f := .meth "Place" "moved") rfl)
    m_Place_applying := He.meth_ok (c.fact 102 (f := .meth "Place" "applying") rfl)
    x_BadArgument := He.exc_ok (c.fact 103 (f := .exc "BadArgument") rfl)
    x_NotFitting := He.exc_ok (c.fact 104 (f := .exc "NotFitting") rfl)
    x_TooLarge := He.exc_ok (c.fact 105 (f := .exc "TooLarge") rfl)
    xm_TooLarge_TooLarge := He.exm_ok (c.fact 106 (f := .exm "TooLarge" "TooLarge" true) rfl)
    xm_NotFitting_TooLarge := He.exm_ok (c.fact 107 (f := .exm "NotFitting" "TooLarge" false) rfl)
    xm_NotFitting_NotFitting := He.exm_ok (c.fact 108 (f := .exm "NotFitting" "NotFitting" true) rfl)
    xm_BadArgument_TooLarge := He.exm_ok (c.fact 109 (f := .exm "BadArgument" "TooLarge" false) rfl)
    xm_BadArgument_NotFitting := He.exm_ok (c.fact 110 (f := .exm "BadArgument" "NotFitting" false) rfl)
    xm_BadArgument_BadArgument := He.exm_ok (c.fact 111 (f := .exm "BadArgument" "BadArgument" true) rfl)
    f_is_integer := c.def_ 0 rfl
    f_is_below := c.def_ 1 rfl
    f_power := c.def_ 2 rfl
    f_is_name := c.def_ 3 rfl
    f_is_row := c.def_ 4 rfl
    f_checked := c.def_ 5 rfl
    f_Structure_init := c.def_ 6 rfl
    f_Structure_symbols := c.def_ 7 rfl
    f_are_heads := c.def_ 8 rfl
    f_is_condition := c.def_ 9 rfl
    f_is_action := c.def_ 10 rfl
    f_check_rule := c.def_ 11 rfl
    f_looked_at := c.def_ 12 rfl
    f_machine_symbols := c.def_ 13 rfl
    f_by_state := c.def_ 14 rfl
    f_check_symbols := c.def_ 15 rfl
    f_first_configuration := c.def_ 16 rfl
    f_Place_init := c.def_ 17 rfl
    f_Place_load := c.def_ 18 rfl
    f_Place_true := c.def_ 19 rfl
    f_Place_moved := c.def_ 20 rfl
    f_Place_applying := c.def_ 21 rfl
    f_is_configuration := c.def_ 22 rfl
    f_check_headed := c.def_ 23 rfl
    f_check_places := c.def_ 24 rfl
    f_followed := c.def_ 25 rfl
    f_reached := c.def_ 26 rfl
    f_levels_of := c.def_ 27 rfl
    f_refusal := c.def_ 28 rfl
    f_are_levels := c.def_ 29 rfl
    f_is_refusal := c.def_ 30 rfl
    f_L_mixed := c.def_ 31 rfl
    f_L_numbers := c.def_ 32 rfl
    f_L_draw := c.def_ 33 rfl
    f_L_equal := c.def_ 34 rfl
    f_L_all_equal := c.def_ 35 rfl
    f_L_relation := c.def_ 36 rfl
    f_L_all_rows := c.def_ 37 rfl
    f_L_relations := c.def_ 38 rfl
    f_L_made := c.def_ 39 rfl
    f_L_condition := c.def_ 40 rfl
    f_L_action := c.def_ 41 rfl
    f_L_turned := c.def_ 42 rfl
    f_L_rule := c.def_ 43 rfl
    f_L_rules := c.def_ 44 rfl
    f_L_machine := c.def_ 45 rfl
    f_L_test := c.def_ 46 rfl
    f_L_act := c.def_ 47 rfl
    f_L_by_state := c.def_ 48 rfl
    f_L_all_hold := c.def_ 49 rfl
    f_L_after := c.def_ 50 rfl
    f_L_next := c.def_ 51 rfl
    f_L_first := c.def_ 52 rfl
    f_L_levels := c.def_ 53 rfl
    f_L_reaches := c.def_ 54 rfl
    f_L_spoilt := c.def_ 55 rfl
    f_L_error := c.def_ 56 rfl
    f_law := c.def_ 57 rfl
    words := fun H => He.tupB_ok m1 H
    d_CONDITIONS := c0.tab 0 rfl
    v_CONDITIONS_rel := vt _ _ _ (He.valsB_ok m3 (q := ("rel", .int 4)) (by simp))
    v_CONDITIONS_eq := vt _ _ _ (He.valsB_ok m3 (q := ("eq", .int 4)) (by simp))
    v_CONDITIONS_less := vt _ _ _ (He.valsB_ok m3 (q := ("less", .int 4)) (by simp))
    v_CONDITIONS_last := vt _ _ _ (He.valsB_ok m3 (q := ("last", .int 3)) (by simp))
    v_CONDITIONS_mark := vt _ _ _ (He.valsB_ok m3 (q := ("mark", .int 4)) (by simp))
    d_ACTIONS := c0.tab 1 rfl
    v_ACTIONS_up := vt _ _ _ (He.valsB_ok m4 (q := ("up", .int 2)) (by simp))
    v_ACTIONS_down := vt _ _ _ (He.valsB_ok m4 (q := ("down", .int 2)) (by simp))
    v_ACTIONS_zero := vt _ _ _ (He.valsB_ok m4 (q := ("zero", .int 2)) (by simp))
    v_ACTIONS_copy := vt _ _ _ (He.valsB_ok m4 (q := ("copy", .int 3)) (by simp))
    v_ACTIONS_write := vt _ _ _ (He.valsB_ok m4 (q := ("write", .int 4)) (by simp))
  }
end K54
set_option Elab.async false
set_option linter.all false
set_option maxRecDepth 100000
set_option maxHeartbeats 4000000
set_option pp.maxSteps 800
namespace K54
open PySem PySem.Spec PyProof.Rows L2
open Hd
theorem law_facts {P : Program} {w : World} {K : PySem.W.Frag} {h : Heap} {mg : Str → Option Value} {f : Addr} (X : K.In h) (G : h.Ns mainGlobals mg) (hfa : mg ("law" : Str) = some (.ref f)) (c : He.SaysT fa fn ts w K) (m : more K = true) :
    ∃ fd : FuncData, (∀ (s : Shared) (v : Value), BindsTo s fd ⟨[v], []⟩ [("_law_script", v)]) ∧ ∀ base : Heap, K.In base → base.Ns mainGlobals mg → FnOk P w K mg base CX0 13 f fd ["_law_script"] (spLaw K) := by
  have T := txt_of X G c m
  obtain ⟨fd, F⟩ := T.f_law
  have b := FunD.bindsA (ps := ["_law_script"]) F fun _ _ _ _ _ _ us hl => match us, hl with | [_], _ => rfl
  have e := hfa.symm.trans (T.g_law)
  cases e
  exact ⟨fd, fun s v => b s [v] rfl, fun base _ _ => ok_law T F⟩
end K54
set_option Elab.async false
set_option linter.all false
set_option maxRecDepth 100000
set_option maxHeartbeats 4000000
set_option pp.maxSteps 800
namespace K54
open PySem PySem.Spec PyProof.Rows L2
end K54
open PySem PySem.W PySem.Calls PyProof.Rows
theorem PySem.Challenge.cw_sayso_k54_whole_refusals_holds : PySem.Challenge.rw_sayso_k54_whole_refusals.Holds := by
  w_on; o_law
  refine HandSHeadRun.head_any (r := OpenLaw.row PySem.Challenge.rw_sayso_k54_whole_refusals) (q := view (OpenLaw.row PySem.Challenge.rw_sayso_k54_whole_refusals).prog [81]) (H := K54.Hd.hk) (ob := K54.Hd.ob) (M := 6000) (loose := K54.Hd.names) (d := HandSHeadRun.topDef (OpenLaw.row PySem.Challenge.rw_sayso_k54_whole_refusals).prog 81) (kwd := []) K54.Hd.ob_eq
    (by kernel_rfl) (fun s => by kernel_rfl) K54.Hd.run (by kernel_rfl) (by kernel_rfl) (by kernel_rfl) (by rfl) (by first | assumption | decide +kernel) (by decide +kernel) ⟨rfl, rfl, rfl, rfl, rfl, by decide +kernel⟩ ?hw ?hc
  case hw => w_witness2
  case hc =>
    refine L2.walk_ofE (l := PySem.Challenge.rw_sayso_k54_whole_refusals) (n := 63) (k := 13) (x := "_law_script") (CX := L2.CX0) rfl (by decide) (by kernel_rfl) ⟨rfl, by decide, by decide⟩ ?F (fun _ _ _ _ z => z)
    intro w mg fa h Y G hmg0
    obtain ⟨K, KX, c, m⟩ := Y
    have hmg : mg ("law" : PySem.Str) = some (.ref fa) := by
      have e : (HandSHeadRun.topDef (OpenLaw.row PySem.Challenge.rw_sayso_k54_whole_refusals).prog 81).name = ("law" : PySem.Str) := by kernel_rfl
      rw [← e]
      exact hmg0
    obtain ⟨fd, hb, hF⟩ := K54.law_facts (P := (PySem.Challenge.rw_sayso_k54_whole_refusals).prog) (w := w) KX G hmg c m
    exact ⟨K, fd, K54.spLaw K, KX, hb, fun H a ns hl _ hS => ⟨a, ns, rfl, hS, hl, fun _ => rfl⟩, hF⟩
namespace K54
end K54
