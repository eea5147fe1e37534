import PyProof.Rows.All
import Wide.All
import OpenK.AllK
import Wide.FinOn
import KE.KStateDown
import HandS.ForMost
import HandS.ForExc
import HandS.ExcInit
import HandS.ExcField
import HandS.IsInst
import HandS.Evl
import HandS.Defaults
import HandS.Head0
import HandS.Head1
import HandS.Head2
import HandS.HeadEnd
import HandS.HeadHook1
import HandS.HeadHook2
import PySem.Challenge.RW_rulerows_k69_whole_what_can_come
import KE.GoesEnum
import HandS.Walk
set_option Elab.async false
set_option linter.all false
set_option maxRecDepth 100000
set_option maxHeartbeats 4000000
namespace K6
open PySem PySem.Spec PyProof.Rows L2
/-! ### the text by places -/
def tp (i : Nat) : Stmt := PySem.Challenge.pw_rulerows_k69_whole_what_can_come.main.body.getD i (.Pass ⟨0, 0, 0, 0⟩)
abbrev s_is_between : Stmt := tp 9
abbrev s_is_widths : Stmt := tp 10
abbrev s_is_range : Stmt := tp 11
abbrev s_is_rule : Stmt := tp 12
abbrev s_is_list : Stmt := tp 13
abbrev s_check_list : Stmt := tp 14
abbrev s_check_text : Stmt := tp 22
abbrev s_chars_at : Stmt := tp 23
abbrev s_token_at : Stmt := tp 24
abbrev s_scan : Stmt := tp 25
abbrev s_shown : Stmt := tp 29
abbrev s_in_order : Stmt := tp 30
abbrev s_joined : Stmt := tp 31
abbrev s_next_tokens : Stmt := tp 34
abbrev s_widths_of : Stmt := tp 35
abbrev s_action_of : Stmt := tp 36
abbrev s_value_of : Stmt := tp 37
abbrev s_range_of : Stmt := tp 38
abbrev s_rule_of : Stmt := tp 39
abbrev s_read_list : Stmt := tp 40
abbrev s_read_row : Stmt := tp 41
abbrev s_read_case : Stmt := tp 42
abbrev s_l_stream : Stmt := tp 44
abbrev s_l_next : Stmt := tp 45
abbrev s_l_is_integer : Stmt := tp 46
abbrev s_l_equal : Stmt := tp 47
abbrev s_l_pick : Stmt := tp 48
abbrev s_l_laid : Stmt := tp 49
abbrev s_l_shown : Stmt := tp 50
abbrev s_l_kinds : Stmt := tp 51
abbrev s_l_listed : Stmt := tp 52
abbrev s_l_table : Stmt := tp 53
abbrev s_l_due : Stmt := tp 54
abbrev s_l_told : Stmt := tp 55
abbrev s_l_token : Stmt := tp 56
abbrev s_l_is_right : Stmt := tp 57
abbrev s_l_goes_on : Stmt := tp 58
abbrev s_law : Stmt := tp 59
abbrev s_TextError_init : Stmt := inClass (tp 3) 0
abbrev s_Ahead_init : Stmt := inClass (tp 32) 0
abbrev s_Parser_init : Stmt := inClass (tp 33) 0
abbrev s_Parser_look : Stmt := inClass (tp 33) 1
abbrev s_Parser_take : Stmt := inClass (tp 33) 2
abbrev s_Parser_rule : Stmt := inClass (tp 33) 3
abbrev s_Parser_whole : Stmt := inClass (tp 33) 4
abbrev s_Parser_numbers : Stmt := inClass (tp 33) 5
/-! ### an exception class over ValueError, whatever stands between -/
def xcB (K : PySem.W.Frag) (C : Addr) : Bool := match K.lookup C with
  | some ⟨.type "type", _, .cls cd, sl⟩ => (match cd.mro, sl.toList with
    | .ref c :: bm, [_, _, _, _, some (.builtin n), _] => c == C && (n == "ValueError.__new__" && (!cd.hasDel && (cd.hasDict && PySem.HandSPX.refsVE bm)))
    | _, _ => false)
  | _ => false
theorem xc_of {K : PySem.W.Frag} {C : Addr} (h : xcB K C = true) : ∃ nm q N bs bm sn sub ab col dd k0 k1 k2 k3 k5,
    K.lookup C = some (excClassObj nm q C N bs bm true sn sub ab col dd k0 k1 k2 k3 k5 "ValueError.__new__") ∧ PySem.HandSPX.refsVE bm = true := by
  unfold xcB at h
  split at h
  · rename_i dd cd sl ho
    split at h
    · rename_i c bm k0 k1 k2 k3 n k5 hm hs
      obtain ⟨l⟩ := sl
      obtain ⟨n1, n2, n3, n4, n5, n6, n7, n8, n9, n10, n11⟩ := cd
      simp only [Bool.and_eq_true, beq_iff_eq, Bool.not_eq_true'] at h
      simp only at hm hs
      obtain ⟨h1, h2, h3, h4, h5⟩ := h
      subst h1 h2 h3 h4 hm hs
      exact ⟨_, _, _, _, _, _, _, _, _, _, _, _, _, _, _, ho, h5⟩
    · cases h
  · cases h
/-- all that the walk asks of such a class -/
structure Exc (K : PySem.W.Frag) (C : Addr) : Prop where
  o : OexC K C
  f : XfC K C
  i : PySem.W.findIn K (.ref C) "__init__" = some (some (.ref (He.ma K C "__init__")))
  t : PySem.W.typeIn K (.ref (He.ma K C "__init__")) = some (.type "function")
def excB (K : PySem.W.Frag) (C : Addr) : Bool :=
  xcB K C && (He.eqO (PySem.W.findIn K (.ref C) "__setattr__") (some (some (.builtin "object.__setattr__"))) && (decide (PySem.W.subIn K (.ref C) (.type "BaseException") = some true) &&
    (decide (PySem.W.typeIn K (.ref C) = some (.type "type")) && (PySem.W.keepIn K (.ref C) && (xfB K C &&
      (He.eqO (PySem.W.findIn K (.ref C) "__init__") (some (some (.ref (He.ma K C "__init__")))) && decide (PySem.W.typeIn K (.ref (He.ma K C "__init__")) = some (.type "function"))))))))
theorem exc_of {K : PySem.W.Frag} {C : Addr} (h : excB K C = true) : Exc K C := by
  obtain ⟨h1, h⟩ := He.ba h
  obtain ⟨h2, h⟩ := He.ba h
  obtain ⟨h3, h⟩ := He.ba h
  obtain ⟨h4, h⟩ := He.ba h
  obtain ⟨h5, h⟩ := He.ba h
  obtain ⟨h6, h⟩ := He.ba h
  obtain ⟨h7, h8⟩ := He.ba h
  exact ⟨⟨xc_of h1, He.eqO_ok h2, of_decide_eq_true h3, of_decide_eq_true h4, h5⟩, xfB_ok h6, He.eqO_ok h7, of_decide_eq_true h8⟩
/-! ### the facts of the top -/
def fa0 : List He.Fa := [.glo "is_between", .glo "is_widths", .glo "is_range", .glo "is_rule", .glo "is_list", .glo "check_list", .glo "check_text", .glo "chars_at", .glo "token_at", .glo "scan", .glo "shown", .glo "in_order", .glo "joined", .glo "next_tokens", .glo "widths_of", .glo "action_of", .glo "value_of", .glo "range_of", .glo "rule_of", .glo "read_list", .glo "read_row", .glo "read_case", .glo "_law_stream", .glo "_law_next", .glo "_law_is_integer", .glo "_law_equal", .glo "_law_pick", .glo "_law_laid", .glo "_law_shown", .glo "_law_kinds"]
def fa1 : List He.Fa := [.glo "_law_listed", .glo "_law_table", .glo "_law_due", .glo "_law_told", .glo "_law_token", .glo "_law_is_right", .glo "_law_goes_on", .glo "law", .glo "RowError", .glo "BadValue", .glo "TextError", .glo "Ahead", .glo "Parser", .glo "TOKEN_WORDS", .glo "SIGNS", .glo "KINDS", .glo "FIELDS", .free "isinstance", .free "int", .free "bool", .free "str", .free "tuple", .free "list", .free "len", .free "all", .free "enumerate", .free "range", .free "max", .free "abs", .int "MOST_FIELDS" 3]
def fa2 : List He.Fa := [.int "MOST_WIDTH" 8, .int "MOST_RULES" 7, .int "LAST_ACTION" 5, .int "LONGEST_TEXT" 400, .int "MOST_DIGITS" 6, .str "LOWER" "abcdefghijklmnopqrstuvwxyz", .str "DIGITS" "0123456789", .cls "Parser", .noat "Parser" "tokens", .noat "Parser" "stops", .noat "Parser" "at", .meth "Parser" "look", .meth "Parser" "take", .meth "Parser" "rule", .meth "Parser" "whole", .meth "Parser" "numbers", .mkr "Parser", .exm "TextError" "TextError" true, .exm "Ahead" "Ahead" true, .exm "TextError" "Ahead" false, .noat "TextError" "column", .noat "TextError" "words", .noat "Ahead" "options"]
def fa : List He.Fa := fa0 ++ (fa1 ++ (fa2))
def dd (x : Str) (s : Stmt) : He.DefD := ⟨(x, none), x, x, defArgs s, defBody s, defScope s, [], []⟩
def dm (c m q : Str) (s : Stmt) : He.DefD := ⟨(c, some m), m, q, defArgs s, defBody s, defScope s, [], []⟩
def fn1 : List He.DefD := [dd "is_between" s_is_between, dd "is_widths" s_is_widths, dd "is_range" s_is_range, dd "is_rule" s_is_rule, dd "is_list" s_is_list, dd "check_list" s_check_list, dd "check_text" s_check_text, dd "chars_at" s_chars_at, dd "token_at" s_token_at, dd "scan" s_scan, dd "shown" s_shown, dd "in_order" s_in_order, dd "joined" s_joined, dd "next_tokens" s_next_tokens, dd "widths_of" s_widths_of, dd "action_of" s_action_of, dd "value_of" s_value_of, dd "range_of" s_range_of, dd "rule_of" s_rule_of, dd "read_list" s_read_list, dd "read_row" s_read_row, dd "read_case" s_read_case, dd "_law_stream" s_l_stream, dd "_law_next" s_l_next]
def fn2 : List He.DefD := [dd "_law_is_integer" s_l_is_integer, dd "_law_equal" s_l_equal, dd "_law_pick" s_l_pick, dd "_law_laid" s_l_laid, dd "_law_shown" s_l_shown, dd "_law_kinds" s_l_kinds, dd "_law_listed" s_l_listed, dd "_law_table" s_l_table, dd "_law_due" s_l_due, dd "_law_told" s_l_told, dd "_law_token" s_l_token, dd "_law_is_right" s_l_is_right, dd "_law_goes_on" s_l_goes_on, dd "law" s_law, dm "TextError" "__init__" "TextError.__init__" s_TextError_init, dm "Ahead" "__init__" "Ahead.__init__" s_Ahead_init, dm "Parser" "__init__" "Parser.__init__" s_Parser_init, dm "Parser" "look" "Parser.look" s_Parser_look, dm "Parser" "take" "Parser.take" s_Parser_take, dm "Parser" "rule" "Parser.rule" s_Parser_rule, dm "Parser" "whole" "Parser.whole" s_Parser_whole, dm "Parser" "numbers" "Parser.numbers" s_Parser_numbers]
def fn : List He.DefD := fn1 ++ fn2
def tus : List (Str × List He.Dv) := [("TOKEN_WORDS", [.str "if", .str "else"]), ("SIGNS", [.str ":", .str ";", .str "*", .str ".."]), ("KINDS", [.str "list", .str "row"]), ("FIELDS", [.str "a number", .str "\"*\""])]
def exB (K : PySem.W.Frag) : Bool := excB K (He.ga K "TextError") && (excB K (He.ga K "Ahead") && tus.all fun p => He.tupB K p.1 p.2)
structure Tx (K : PySem.W.Frag) (mg : Str → Option Value) : Prop where
  d : He.SaysD fa fn K
  e : exB K = true
  gl : ∀ x, (He.Fa.glo x).ok K = true → mg x = some (.ref (He.ga K x))
  fr : ∀ x, (He.Fa.free x).ok K = true → mg x = none
  it : ∀ x i, (He.Fa.int x i).ok K = true → ∃ t, mg x = some (.int i t)
  st : ∀ x z, (He.Fa.str x z).ok K = true → ∃ t, mg x = some (.str z t)
theorem Tx.mk' {K : PySem.W.Frag} {h : Heap} {mg : Str → Option Value} (X : K.In h) (G : h.Ns mainGlobals mg) (d : He.SaysD fa fn K) (e : exB K = true) : Tx K mg :=
  ⟨d, e, fun _ c => He.glo_ok X G c, fun _ c => He.free_ok X G c, fun _ _ c => He.int_ok X G c, fun _ _ c => He.str_ok X G c⟩
section
variable {K : PySem.W.Frag} {mg : Str → Option Value}
theorem Tx.f (T : Tx K mg) {f : He.Fa} (h : f ∈ fa) : f.ok K = true := by
  obtain ⟨i, hi, e⟩ := List.mem_iff_getElem.mp h
  exact T.d.fact i (f := f) (by rw [List.getElem?_eq_getElem hi, e])
theorem Tx.f0 (T : Tx K mg) (i : Nat) {f : He.Fa} (h : fa0[i]? = some f := by rfl) : f.ok K = true := T.f (List.mem_append_left _ (List.mem_of_getElem? h))
theorem Tx.f1 (T : Tx K mg) (i : Nat) {f : He.Fa} (h : fa1[i]? = some f := by rfl) : f.ok K = true := T.f (List.mem_append_right _ (List.mem_append_left _ (List.mem_of_getElem? h)))
theorem Tx.f2 (T : Tx K mg) (i : Nat) {f : He.Fa} (h : fa2[i]? = some f := by rfl) : f.ok K = true := T.f (List.mem_append_right _ (List.mem_append_right _ (List.mem_of_getElem? h)))
abbrev FnP (K : PySem.W.Frag) (x qual : Str) (s : Stmt) (f : Addr) (fd : FuncData) : Prop := FunD K x qual (defArgs s) (defBody s) (defScope s) [] [] f fd
theorem Tx.g_is_between (T : Tx K mg) : mg "is_between" = some (.ref (He.ga K "is_between")) := T.gl _ (T.f0 0)
theorem Tx.g_is_widths (T : Tx K mg) : mg "is_widths" = some (.ref (He.ga K "is_widths")) := T.gl _ (T.f0 1)
theorem Tx.g_is_range (T : Tx K mg) : mg "is_range" = some (.ref (He.ga K "is_range")) := T.gl _ (T.f0 2)
theorem Tx.g_is_rule (T : Tx K mg) : mg "is_rule" = some (.ref (He.ga K "is_rule")) := T.gl _ (T.f0 3)
theorem Tx.g_is_list (T : Tx K mg) : mg "is_list" = some (.ref (He.ga K "is_list")) := T.gl _ (T.f0 4)
theorem Tx.g_check_list (T : Tx K mg) : mg "check_list" = some (.ref (He.ga K "check_list")) := T.gl _ (T.f0 5)
theorem Tx.g_check_text (T : Tx K mg) : mg "check_text" = some (.ref (He.ga K "check_text")) := T.gl _ (T.f0 6)
theorem Tx.g_chars_at (T : Tx K mg) : mg "chars_at" = some (.ref (He.ga K "chars_at")) := T.gl _ (T.f0 7)
theorem Tx.g_token_at (T : Tx K mg) : mg "token_at" = some (.ref (He.ga K "token_at")) := T.gl _ (T.f0 8)
theorem Tx.g_scan (T : Tx K mg) : mg "scan" = some (.ref (He.ga K "scan")) := T.gl _ (T.f0 9)
theorem Tx.g_shown (T : Tx K mg) : mg "shown" = some (.ref (He.ga K "shown")) := T.gl _ (T.f0 10)
theorem Tx.g_in_order (T : Tx K mg) : mg "in_order" = some (.ref (He.ga K "in_order")) := T.gl _ (T.f0 11)
theorem Tx.g_joined (T : Tx K mg) : mg "joined" = some (.ref (He.ga K "joined")) := T.gl _ (T.f0 12)
theorem Tx.g_next_tokens (T : Tx K mg) : mg "next_tokens" = some (.ref (He.ga K "next_tokens")) := T.gl _ (T.f0 13)
theorem Tx.g_widths_of (T : Tx K mg) : mg "widths_of" = some (.ref (He.ga K "widths_of")) := T.gl _ (T.f0 14)
theorem Tx.g_action_of (T : Tx K mg) : mg "action_of" = some (.ref (He.ga K "action_of")) := T.gl _ (T.f0 15)
theorem Tx.g_value_of (T : Tx K mg) : mg "value_of" = some (.ref (He.ga K "value_of")) := T.gl _ (T.f0 16)
theorem Tx.g_range_of (T : Tx K mg) : mg "range_of" = some (.ref (He.ga K "range_of")) := T.gl _ (T.f0 17)
theorem Tx.g_rule_of (T : Tx K mg) : mg "rule_of" = some (.ref (He.ga K "rule_of")) := T.gl _ (T.f0 18)
theorem Tx.g_read_list (T : Tx K mg) : mg "read_list" = some (.ref (He.ga K "read_list")) := T.gl _ (T.f0 19)
theorem Tx.g_read_row (T : Tx K mg) : mg "read_row" = some (.ref (He.ga K "read_row")) := T.gl _ (T.f0 20)
theorem Tx.g_read_case (T : Tx K mg) : mg "read_case" = some (.ref (He.ga K "read_case")) := T.gl _ (T.f0 21)
theorem Tx.g_l_stream (T : Tx K mg) : mg "_law_stream" = some (.ref (He.ga K "_law_stream")) := T.gl _ (T.f0 22)
theorem Tx.g_l_next (T : Tx K mg) : mg "_law_next" = some (.ref (He.ga K "_law_next")) := T.gl _ (T.f0 23)
theorem Tx.g_l_is_integer (T : Tx K mg) : mg "_law_is_integer" = some (.ref (He.ga K "_law_is_integer")) := T.gl _ (T.f0 24)
theorem Tx.g_l_equal (T : Tx K mg) : mg "_law_equal" = some (.ref (He.ga K "_law_equal")) := T.gl _ (T.f0 25)
theorem Tx.g_l_pick (T : Tx K mg) : mg "_law_pick" = some (.ref (He.ga K "_law_pick")) := T.gl _ (T.f0 26)
theorem Tx.g_l_laid (T : Tx K mg) : mg "_law_laid" = some (.ref (He.ga K "_law_laid")) := T.gl _ (T.f0 27)
theorem Tx.g_l_shown (T : Tx K mg) : mg "_law_shown" = some (.ref (He.ga K "_law_shown")) := T.gl _ (T.f0 28)
theorem Tx.g_l_kinds (T : Tx K mg) : mg "_law_kinds" = some (.ref (He.ga K "_law_kinds")) := T.gl _ (T.f0 29)
theorem Tx.g_l_listed (T : Tx K mg) : mg "_law_listed" = some (.ref (He.ga K "_law_listed")) := T.gl _ (T.f1 0)
theorem Tx.g_l_table (T : Tx K mg) : mg "_law_table" = some (.ref (He.ga K "_law_table")) := T.gl _ (T.f1 1)
theorem Tx.g_l_due (T : Tx K mg) : mg "_law_due" = some (.ref (He.ga K "_law_due")) := T.gl _ (T.f1 2)
theorem Tx.g_l_told (T : Tx K mg) : mg "_law_told" = some (.ref (He.ga K "_law_told")) := T.gl _ (T.f1 3)
theorem Tx.g_l_token (T : Tx K mg) : mg "_law_token" = some (.ref (He.ga K "_law_token")) := T.gl _ (T.f1 4)
theorem Tx.g_l_is_right (T : Tx K mg) : mg "_law_is_right" = some (.ref (He.ga K "_law_is_right")) := T.gl _ (T.f1 5)
theorem Tx.g_l_goes_on (T : Tx K mg) : mg "_law_goes_on" = some (.ref (He.ga K "_law_goes_on")) := T.gl _ (T.f1 6)
theorem Tx.g_law (T : Tx K mg) : mg "law" = some (.ref (He.ga K "law")) := T.gl _ (T.f1 7)
theorem Tx.g_RowError (T : Tx K mg) : mg "RowError" = some (.ref (He.ga K "RowError")) := T.gl _ (T.f1 8)
theorem Tx.g_BadValue (T : Tx K mg) : mg "BadValue" = some (.ref (He.ga K "BadValue")) := T.gl _ (T.f1 9)
theorem Tx.g_TextError (T : Tx K mg) : mg "TextError" = some (.ref (He.ga K "TextError")) := T.gl _ (T.f1 10)
theorem Tx.g_Ahead (T : Tx K mg) : mg "Ahead" = some (.ref (He.ga K "Ahead")) := T.gl _ (T.f1 11)
theorem Tx.g_Parser (T : Tx K mg) : mg "Parser" = some (.ref (He.ga K "Parser")) := T.gl _ (T.f1 12)
theorem Tx.g_TOKEN_WORDS (T : Tx K mg) : mg "TOKEN_WORDS" = some (.ref (He.ga K "TOKEN_WORDS")) := T.gl _ (T.f1 13)
theorem Tx.g_SIGNS (T : Tx K mg) : mg "SIGNS" = some (.ref (He.ga K "SIGNS")) := T.gl _ (T.f1 14)
theorem Tx.g_KINDS (T : Tx K mg) : mg "KINDS" = some (.ref (He.ga K "KINDS")) := T.gl _ (T.f1 15)
theorem Tx.g_FIELDS (T : Tx K mg) : mg "FIELDS" = some (.ref (He.ga K "FIELDS")) := T.gl _ (T.f1 16)
theorem Tx.b_isinstance (T : Tx K mg) : mg "isinstance" = none := T.fr _ (T.f1 17)
theorem Tx.b_int (T : Tx K mg) : mg "int" = none := T.fr _ (T.f1 18)
theorem Tx.b_bool (T : Tx K mg) : mg "bool" = none := T.fr _ (T.f1 19)
theorem Tx.b_str (T : Tx K mg) : mg "str" = none := T.fr _ (T.f1 20)
theorem Tx.b_tuple (T : Tx K mg) : mg "tuple" = none := T.fr _ (T.f1 21)
theorem Tx.b_list (T : Tx K mg) : mg "list" = none := T.fr _ (T.f1 22)
theorem Tx.b_len (T : Tx K mg) : mg "len" = none := T.fr _ (T.f1 23)
theorem Tx.b_all (T : Tx K mg) : mg "all" = none := T.fr _ (T.f1 24)
theorem Tx.b_enumerate (T : Tx K mg) : mg "enumerate" = none := T.fr _ (T.f1 25)
theorem Tx.b_range (T : Tx K mg) : mg "range" = none := T.fr _ (T.f1 26)
theorem Tx.b_max (T : Tx K mg) : mg "max" = none := T.fr _ (T.f1 27)
theorem Tx.b_abs (T : Tx K mg) : mg "abs" = none := T.fr _ (T.f1 28)
theorem Tx.i_MOST_FIELDS (T : Tx K mg) : ∃ t, mg "MOST_FIELDS" = some (.int 3 t) := T.it _ _ (T.f1 29)
theorem Tx.i_MOST_WIDTH (T : Tx K mg) : ∃ t, mg "MOST_WIDTH" = some (.int 8 t) := T.it _ _ (T.f2 0)
theorem Tx.i_MOST_RULES (T : Tx K mg) : ∃ t, mg "MOST_RULES" = some (.int 7 t) := T.it _ _ (T.f2 1)
theorem Tx.i_LAST_ACTION (T : Tx K mg) : ∃ t, mg "LAST_ACTION" = some (.int 5 t) := T.it _ _ (T.f2 2)
theorem Tx.i_LONGEST_TEXT (T : Tx K mg) : ∃ t, mg "LONGEST_TEXT" = some (.int 400 t) := T.it _ _ (T.f2 3)
theorem Tx.i_MOST_DIGITS (T : Tx K mg) : ∃ t, mg "MOST_DIGITS" = some (.int 6 t) := T.it _ _ (T.f2 4)
theorem Tx.s_LOWER (T : Tx K mg) : ∃ t, mg "LOWER" = some (.str "abcdefghijklmnopqrstuvwxyz" t) := T.st _ _ (T.f2 5)
theorem Tx.s_DIGITS (T : Tx K mg) : ∃ t, mg "DIGITS" = some (.str "0123456789" t) := T.st _ _ (T.f2 6)
theorem Tx.cl (T : Tx K mg) : Cls K (He.ga K "Parser") := He.cls_ok (T.f2 7)
theorem Tx.n_tokens (T : Tx K mg) : NoAttr K (He.ga K "Parser") "tokens" := He.noat_ok (T.f2 8)
theorem Tx.n_stops (T : Tx K mg) : NoAttr K (He.ga K "Parser") "stops" := He.noat_ok (T.f2 9)
theorem Tx.n_at (T : Tx K mg) : NoAttr K (He.ga K "Parser") "at" := He.noat_ok (T.f2 10)
theorem Tx.m_look (T : Tx K mg) : Meth K (He.ga K "Parser") "look" (He.ma K (He.ga K "Parser") "look") := He.meth_ok (T.f2 11)
theorem Tx.m_take (T : Tx K mg) : Meth K (He.ga K "Parser") "take" (He.ma K (He.ga K "Parser") "take") := He.meth_ok (T.f2 12)
theorem Tx.m_rule (T : Tx K mg) : Meth K (He.ga K "Parser") "rule" (He.ma K (He.ga K "Parser") "rule") := He.meth_ok (T.f2 13)
theorem Tx.m_whole (T : Tx K mg) : Meth K (He.ga K "Parser") "whole" (He.ma K (He.ga K "Parser") "whole") := He.meth_ok (T.f2 14)
theorem Tx.m_numbers (T : Tx K mg) : Meth K (He.ga K "Parser") "numbers" (He.ma K (He.ga K "Parser") "numbers") := He.meth_ok (T.f2 15)
theorem Tx.mk_ (T : Tx K mg) : Mk K (He.ga K "Parser") (He.ma K (He.ga K "Parser") "__init__") := He.mkr_ok (T.f2 16)
theorem Tx.x_TextError_TextError (T : Tx K mg) : PySem.W.exmOne K (.ref (He.ga K "TextError")) (.ref (He.ga K "TextError")) = some true := He.exm_ok (T.f2 17)
theorem Tx.x_Ahead_Ahead (T : Tx K mg) : PySem.W.exmOne K (.ref (He.ga K "Ahead")) (.ref (He.ga K "Ahead")) = some true := He.exm_ok (T.f2 18)
theorem Tx.x_TextError_Ahead (T : Tx K mg) : PySem.W.exmOne K (.ref (He.ga K "TextError")) (.ref (He.ga K "Ahead")) = some false := He.exm_ok (T.f2 19)
theorem Tx.n_column (T : Tx K mg) : PySem.W.findIn K (.ref (He.ga K "TextError")) "column" = some none := He.noat_ok (T.f2 20)
theorem Tx.n_words (T : Tx K mg) : PySem.W.findIn K (.ref (He.ga K "TextError")) "words" = some none := He.noat_ok (T.f2 21)
theorem Tx.n_options (T : Tx K mg) : PySem.W.findIn K (.ref (He.ga K "Ahead")) "options" = some none := He.noat_ok (T.f2 22)
theorem Tx.te (T : Tx K mg) : Exc K (He.ga K "TextError") := exc_of (He.ba T.e).1
theorem Tx.ah (T : Tx K mg) : Exc K (He.ga K "Ahead") := exc_of (He.ba (He.ba T.e).2).1
theorem Tx.tu (T : Tx K mg) (i : Nat) {p : Str × List He.Dv} (h : tus[i]? = some p) (H : Hp) : SqT K H (He.ga K p.1) (p.2.map (He.Dv.v K)) := He.tupB_ok (List.all_eq_true.mp (He.ba (He.ba T.e).2).2 p (List.mem_of_getElem? h)) H
theorem Tx.t_TOKEN_WORDS (T : Tx K mg) (H : Hp) : SqT K H (He.ga K "TOKEN_WORDS") [.str "if", .str "else"] := T.tu 0 rfl H
theorem Tx.t_SIGNS (T : Tx K mg) (H : Hp) : SqT K H (He.ga K "SIGNS") [.str ":", .str ";", .str "*", .str ".."] := T.tu 1 rfl H
theorem Tx.t_KINDS (T : Tx K mg) (H : Hp) : SqT K H (He.ga K "KINDS") [.str "list", .str "row"] := T.tu 2 rfl H
theorem Tx.t_FIELDS (T : Tx K mg) (H : Hp) : SqT K H (He.ga K "FIELDS") [.str "a number", .str "\"*\""] := T.tu 3 rfl H
theorem Tx.d_is_between (T : Tx K mg) : ∃ fd, FnP K "is_between" "is_between" s_is_between (He.ga K "is_between") fd := T.d.def_ 0 rfl
theorem Tx.d_is_widths (T : Tx K mg) : ∃ fd, FnP K "is_widths" "is_widths" s_is_widths (He.ga K "is_widths") fd := T.d.def_ 1 rfl
theorem Tx.d_is_range (T : Tx K mg) : ∃ fd, FnP K "is_range" "is_range" s_is_range (He.ga K "is_range") fd := T.d.def_ 2 rfl
theorem Tx.d_is_rule (T : Tx K mg) : ∃ fd, FnP K "is_rule" "is_rule" s_is_rule (He.ga K "is_rule") fd := T.d.def_ 3 rfl
theorem Tx.d_is_list (T : Tx K mg) : ∃ fd, FnP K "is_list" "is_list" s_is_list (He.ga K "is_list") fd := T.d.def_ 4 rfl
theorem Tx.d_check_list (T : Tx K mg) : ∃ fd, FnP K "check_list" "check_list" s_check_list (He.ga K "check_list") fd := T.d.def_ 5 rfl
theorem Tx.d_check_text (T : Tx K mg) : ∃ fd, FnP K "check_text" "check_text" s_check_text (He.ga K "check_text") fd := T.d.def_ 6 rfl
theorem Tx.d_chars_at (T : Tx K mg) : ∃ fd, FnP K "chars_at" "chars_at" s_chars_at (He.ga K "chars_at") fd := T.d.def_ 7 rfl
theorem Tx.d_token_at (T : Tx K mg) : ∃ fd, FnP K "token_at" "token_at" s_token_at (He.ga K "token_at") fd := T.d.def_ 8 rfl
theorem Tx.d_scan (T : Tx K mg) : ∃ fd, FnP K "scan" "scan" s_scan (He.ga K "scan") fd := T.d.def_ 9 rfl
theorem Tx.d_shown (T : Tx K mg) : ∃ fd, FnP K "shown" "shown" s_shown (He.ga K "shown") fd := T.d.def_ 10 rfl
theorem Tx.d_in_order (T : Tx K mg) : ∃ fd, FnP K "in_order" "in_order" s_in_order (He.ga K "in_order") fd := T.d.def_ 11 rfl
theorem Tx.d_joined (T : Tx K mg) : ∃ fd, FnP K "joined" "joined" s_joined (He.ga K "joined") fd := T.d.def_ 12 rfl
theorem Tx.d_next_tokens (T : Tx K mg) : ∃ fd, FnP K "next_tokens" "next_tokens" s_next_tokens (He.ga K "next_tokens") fd := T.d.def_ 13 rfl
theorem Tx.d_widths_of (T : Tx K mg) : ∃ fd, FnP K "widths_of" "widths_of" s_widths_of (He.ga K "widths_of") fd := T.d.def_ 14 rfl
theorem Tx.d_action_of (T : Tx K mg) : ∃ fd, FnP K "action_of" "action_of" s_action_of (He.ga K "action_of") fd := T.d.def_ 15 rfl
theorem Tx.d_value_of (T : Tx K mg) : ∃ fd, FnP K "value_of" "value_of" s_value_of (He.ga K "value_of") fd := T.d.def_ 16 rfl
theorem Tx.d_range_of (T : Tx K mg) : ∃ fd, FnP K "range_of" "range_of" s_range_of (He.ga K "range_of") fd := T.d.def_ 17 rfl
theorem Tx.d_rule_of (T : Tx K mg) : ∃ fd, FnP K "rule_of" "rule_of" s_rule_of (He.ga K "rule_of") fd := T.d.def_ 18 rfl
theorem Tx.d_read_list (T : Tx K mg) : ∃ fd, FnP K "read_list" "read_list" s_read_list (He.ga K "read_list") fd := T.d.def_ 19 rfl
theorem Tx.d_read_row (T : Tx K mg) : ∃ fd, FnP K "read_row" "read_row" s_read_row (He.ga K "read_row") fd := T.d.def_ 20 rfl
theorem Tx.d_read_case (T : Tx K mg) : ∃ fd, FnP K "read_case" "read_case" s_read_case (He.ga K "read_case") fd := T.d.def_ 21 rfl
theorem Tx.d_l_stream (T : Tx K mg) : ∃ fd, FnP K "_law_stream" "_law_stream" s_l_stream (He.ga K "_law_stream") fd := T.d.def_ 22 rfl
theorem Tx.d_l_next (T : Tx K mg) : ∃ fd, FnP K "_law_next" "_law_next" s_l_next (He.ga K "_law_next") fd := T.d.def_ 23 rfl
theorem Tx.d_l_is_integer (T : Tx K mg) : ∃ fd, FnP K "_law_is_integer" "_law_is_integer" s_l_is_integer (He.ga K "_law_is_integer") fd := T.d.def_ 24 rfl
theorem Tx.d_l_equal (T : Tx K mg) : ∃ fd, FnP K "_law_equal" "_law_equal" s_l_equal (He.ga K "_law_equal") fd := T.d.def_ 25 rfl
theorem Tx.d_l_pick (T : Tx K mg) : ∃ fd, FnP K "_law_pick" "_law_pick" s_l_pick (He.ga K "_law_pick") fd := T.d.def_ 26 rfl
theorem Tx.d_l_laid (T : Tx K mg) : ∃ fd, FnP K "_law_laid" "_law_laid" s_l_laid (He.ga K "_law_laid") fd := T.d.def_ 27 rfl
theorem Tx.d_l_shown (T : Tx K mg) : ∃ fd, FnP K "_law_shown" "_law_shown" s_l_shown (He.ga K "_law_shown") fd := T.d.def_ 28 rfl
theorem Tx.d_l_kinds (T : Tx K mg) : ∃ fd, FnP K "_law_kinds" "_law_kinds" s_l_kinds (He.ga K "_law_kinds") fd := T.d.def_ 29 rfl
theorem Tx.d_l_listed (T : Tx K mg) : ∃ fd, FnP K "_law_listed" "_law_listed" s_l_listed (He.ga K "_law_listed") fd := T.d.def_ 30 rfl
theorem Tx.d_l_table (T : Tx K mg) : ∃ fd, FnP K "_law_table" "_law_table" s_l_table (He.ga K "_law_table") fd := T.d.def_ 31 rfl
theorem Tx.d_l_due (T : Tx K mg) : ∃ fd, FnP K "_law_due" "_law_due" s_l_due (He.ga K "_law_due") fd := T.d.def_ 32 rfl
theorem Tx.d_l_told (T : Tx K mg) : ∃ fd, FnP K "_law_told" "_law_told" s_l_told (He.ga K "_law_told") fd := T.d.def_ 33 rfl
theorem Tx.d_l_token (T : Tx K mg) : ∃ fd, FnP K "_law_token" "_law_token" s_l_token (He.ga K "_law_token") fd := T.d.def_ 34 rfl
theorem Tx.d_l_is_right (T : Tx K mg) : ∃ fd, FnP K "_law_is_right" "_law_is_right" s_l_is_right (He.ga K "_law_is_right") fd := T.d.def_ 35 rfl
theorem Tx.d_l_goes_on (T : Tx K mg) : ∃ fd, FnP K "_law_goes_on" "_law_goes_on" s_l_goes_on (He.ga K "_law_goes_on") fd := T.d.def_ 36 rfl
theorem Tx.d_law (T : Tx K mg) : ∃ fd, FnP K "law" "law" s_law (He.ga K "law") fd := T.d.def_ 37 rfl
theorem Tx.d_TextError_init (T : Tx K mg) : ∃ fd, FnP K "__init__" "TextError.__init__" s_TextError_init (He.ma K (He.ga K "TextError") "__init__") fd := T.d.def_ 38 rfl
theorem Tx.d_Ahead_init (T : Tx K mg) : ∃ fd, FnP K "__init__" "Ahead.__init__" s_Ahead_init (He.ma K (He.ga K "Ahead") "__init__") fd := T.d.def_ 39 rfl
theorem Tx.d_Parser_init (T : Tx K mg) : ∃ fd, FnP K "__init__" "Parser.__init__" s_Parser_init (He.ma K (He.ga K "Parser") "__init__") fd := T.d.def_ 40 rfl
theorem Tx.d_Parser_look (T : Tx K mg) : ∃ fd, FnP K "look" "Parser.look" s_Parser_look (He.ma K (He.ga K "Parser") "look") fd := T.d.def_ 41 rfl
theorem Tx.d_Parser_take (T : Tx K mg) : ∃ fd, FnP K "take" "Parser.take" s_Parser_take (He.ma K (He.ga K "Parser") "take") fd := T.d.def_ 42 rfl
theorem Tx.d_Parser_rule (T : Tx K mg) : ∃ fd, FnP K "rule" "Parser.rule" s_Parser_rule (He.ma K (He.ga K "Parser") "rule") fd := T.d.def_ 43 rfl
theorem Tx.d_Parser_whole (T : Tx K mg) : ∃ fd, FnP K "whole" "Parser.whole" s_Parser_whole (He.ma K (He.ga K "Parser") "whole") fd := T.d.def_ 44 rfl
theorem Tx.d_Parser_numbers (T : Tx K mg) : ∃ fd, FnP K "numbers" "Parser.numbers" s_Parser_numbers (He.ma K (He.ga K "Parser") "numbers") fd := T.d.def_ 45 rfl
end
end K6

set_option Elab.async false
set_option linter.all false
set_option maxRecDepth 100000
set_option maxHeartbeats 4000000
namespace K6
open PySem PySem.Spec PyProof.Rows L2
/-! ### heaps -/
theorem same_new {H : Hp} {p : Addr} {o : HO} (h : H p = none) : Same H (upd H p o) := fun b u e => by
  rw [upd_ne (ne_of_none e h)]
  exact e
/-- all but p is as it was -/
def But (p : Addr) (H H' : Hp) : Prop := ∀ b o, b ≠ p → H b = some o → H' b = some o
theorem s_but {p : Addr} {H H' : Hp} (e : Same H H') : But p H H' := fun b o _ h => e b o h
theorem But.refl (p : Addr) (H : Hp) : But p H H := fun _ _ _ h => h
theorem But.trans {p : Addr} {H H1 H2 : Hp} (a : But p H H1) (b : But p H1 H2) : But p H H2 := fun c o n h => b c o n (a c o n h)
theorem But.same {p : Addr} {H H1 H2 : Hp} (a : But p H H1) (b : Same H1 H2) : But p H H2 := fun c o n h => b c o (a c o n h)
theorem s_thenBut {p : Addr} {H H1 H2 : Hp} (a : Same H H1) (b : But p H1 H2) : But p H H2 := fun c o n h => b c o n (a c o h)
theorem but_upd {p : Addr} {H : Hp} {o : HO} : But p H (upd H p o) := fun b u n e => by
  rw [upd_ne n]
  exact e
/-- something new has changed: what stood before stands -/
theorem s_mut {H H1 : Hp} {p : Addr} {o : HO} (e : Same H H1) (h : H p = none) : Same H (upd H1 p o) := fun b u z => by
  rw [upd_ne (ne_of_none z h)]
  exact e b u z
theorem But.mut {q p : Addr} {H H1 : Hp} {o : HO} (e : But q H H1) (h : H p = none) : But q H (upd H1 p o) := fun b u n z => by
  rw [upd_ne (ne_of_none z h)]
  exact e b u n z
theorem But.free {p q : Addr} {H H1 : Hp} (e : But p H H1) (n : q ≠ p) (h : H1 q = none) : H q = none := by
  cases z : H q with
  | none => rfl
  | some o =>
    rw [e q o n z] at h
    cases h
theorem But.fresh {p q : Addr} {H H1 H2 : Hp} (e : Same H H1) (h : H p = none) (b : But p H1 H2) : Same H H2 := fun c o z => b c o (ne_of_none z h) (e c o z)
theorem s_sqT {K : PySem.W.Frag} {H H' : Hp} {a : Addr} {xs : List V} (e : Same H H') (h : SqT K H a xs) : SqT K H' a xs := by
  rcases h with (h | ⟨o, h⟩) | h
  · exact .inl (.inl (e _ _ h))
  · exact .inl (.inr ⟨o, e _ _ h⟩)
  · exact .inr h
/-! ### a def of the text with its promise -/
structure Df (P : Program) (w : World) (K : PySem.W.Frag) (mg : Str → Option Value) (base : Heap) (k : Nat) (x : Str) (ps : List Str) (sp : Sp) : Prop where
  ex : ∃ f fd, mg x = some (.ref f) ∧ FnOk P w K mg base (L2.CX P w) k f fd ps sp ∧ PySem.W.keepIn K (.ref f) = true ∧ Binds K fd ps []
/-- a method -/
structure Mf (P : Program) (w : World) (K : PySem.W.Frag) (mg : Str → Option Value) (base : Heap) (k : Nat) (C : Addr) (m : Str) (ps : List Str) (sp : Sp) : Prop where
  ex : ∃ f fd, Meth K C m f ∧ FnOk P w K mg base (L2.CX P w) k f fd ps sp ∧ Binds K fd ps []
section
variable {P : Program} {w : World} {K : PySem.W.Frag} {mg : Str → Option Value} {base : Heap}
theorem df_mk {x : Str} {s : Stmt} {f : Addr} {N ps : List Str} {k : Nat} {sp : Sp} (g : mg x = some (.ref f)) (F : ∃ fd, FnP K x x s f fd) (S : FnScope N ps (defScope s)) (len : ∀ vs H Q E, sp vs H Q E → vs.length = ps.length)
    (hb : ∀ (kV doc pm : Value) (an : Option Addr) (cdv ct : Value) (us : List Value), us.length = ps.length → bindArgs (PySem.W.fnOf x x (defArgs s) (defBody s) (defScope s) .none kV doc pm an cdv ct) ⟨us, []⟩ = pure (ps.zip us))
    (hbody : ∀ (cdv : Value) (A : Around) (outer : List Env) (st : Shared) (H : Hp) (vs : List V) (Q : VK) (E : XK), Room k (A.deeper (envOfC x (defScope s) st.heap.objs.size f cdv)) → sp vs H Q E →
      ∃ t, PSs (cxOf (L2.CX P w) P w K mg base N x (defScope s) f cdv A outer st H E) (defBody s) t ∧ t { nx := fun _ H' => Q .non H', rt := Q } (start N vs) H) : Df P w K mg base (k + 1) x ps sp := by
  obtain ⟨fd, F⟩ := F
  exact ⟨⟨f, fd, g, F.ok S len hbody, F.kp, F.bindsN hb⟩⟩
theorem mf_mk {C : Addr} {m q : Str} {s : Stmt} {f : Addr} {N ps : List Str} {k : Nat} {sp : Sp} (M : Meth K C m f) (F : ∃ fd, FnP K m q s f fd) (S : FnScope N ps (defScope s)) (len : ∀ vs H Q E, sp vs H Q E → vs.length = ps.length)
    (hb : ∀ (kV doc pm : Value) (an : Option Addr) (cdv ct : Value) (us : List Value), us.length = ps.length → bindArgs (PySem.W.fnOf m q (defArgs s) (defBody s) (defScope s) .none kV doc pm an cdv ct) ⟨us, []⟩ = pure (ps.zip us))
    (hbody : ∀ (cdv : Value) (A : Around) (outer : List Env) (st : Shared) (H : Hp) (vs : List V) (Q : VK) (E : XK), Room k (A.deeper (envOfC q (defScope s) st.heap.objs.size f cdv)) → sp vs H Q E →
      ∃ t, PSs (cxOf (L2.CX P w) P w K mg base N q (defScope s) f cdv A outer st H E) (defBody s) t ∧ t { nx := fun _ H' => Q .non H', rt := Q } (start N vs) H) : Mf P w K mg base (k + 1) C m ps sp := by
  obtain ⟨fd, F⟩ := F
  exact ⟨⟨f, fd, M, F.ok S len hbody, F.bindsN hb⟩⟩
/-- what a body lets out is what its caller wishes -/
theorem tkE {N : List Str} {q : Str} {sc : Scope} {f : Addr} {cdv : Value} {A : Around} {outer : List Env} {st : Shared} {H : Hp} {E : XK} :
    Takes (cxOf (L2.CX P w) P w K mg base N q sc f cdv A outer st H E) (fun cls d _ H' => E cls d H') := takes_of rfl rfl rfl rfl
theorem pwE {N : List Str} {q : Str} {sc : Scope} {f : Addr} {cdv : Value} {A : Around} {outer : List Env} {st : Shared} {H : Hp} {E : XK} :
    PassesOwn (model (cxOf (L2.CX P w) P w K mg base N q sc f cdv A outer st H E).prog (cxOf (L2.CX P w) P w K mg base N q sc f cdv A outer st H E).w) (cxOf (L2.CX P w) P w K mg base N q sc f cdv A outer st H E).A
      (cxOf (L2.CX P w) P w K mg base N q sc f cdv A outer st H E).env (cxOf (L2.CX P w) P w K mg base N q sc f cdv A outer st H E).xe := passes_of rfl
end
/-! ### calls -/
section
variable {X : Cx} {k : Nat} {ps : List Str} {sp : Sp} {W : WX} {x m : Str} {C : Addr} {p pos apos : Pos} {e o : Expr} {es : List Expr} {ta : TE} {t : TA}
theorem pe_d (D : Df X.prog X.w X.K X.mg X.base k x ps sp) (hr : Room k X.A) (tk : Takes X W) (ha : PA X (e :: es) t) (hg : Gl X x := by rfl) (hdb : (x == ("__debug__" : Str)) = false := by decide)
    (he : starEach (e :: es) X.env = (false, eval e X.env) :: starEach es X.env := by rfl) (hpl : (backTo pos (starEach es X.env)).any (·.1) = false := by rfl) : PE X (.Call (.Name x p) (e :: es) [] pos) (tCallS sp (WE W) t) := by
  obtain ⟨f, fd, g, F, kp, b⟩ := D.ex
  exact pe_callS F hr hg g kp b (fun σ => passAt tk σ) ha hdb he hpl
theorem pe_d0 (D : Df X.prog X.w X.K X.mg X.base k x ps sp) (hr : Room k X.A) (hg : Gl X x := by rfl) (hdb : (x == ("__debug__" : Str)) = false := by decide) : PE X (.Call (.Name x p) [] [] pos) (tCall sp [] E0 tNil) := by
  obtain ⟨f, fd, g, F, kp, b⟩ := D.ex
  exact pe_call0 F hr hg g kp b .nil passL hdb
/-- o.m(e, ..): what it raises is wished for at the slots -/
def tMS (C : Addr) (m : Str) (sp : Sp) (W : WX) (ta : TE) (t : TA) : TE := fun σ H Q => ta σ H fun x H1 => ∃ a dx fs, x = .ref a ∧ H1 a = some (.ins C dx fs) ∧ fs.lookup m = none ∧ t σ H1 fun vs H2 => sp (x :: vs) H2 Q (WE W σ)
theorem pe_m {pl : Sem Bool} (ho : PE X o ta) (c : Cls X.K C) (D : Mf X.prog X.w X.K X.mg X.base k C m ps sp) (hr : Room k X.A) (tk : Takes X W) (ha : PA X (e :: es) t)
    (hst : starEach (e :: es) X.env = (false, eval e X.env) :: starEach es X.env := by rfl) (hpl : (backTo pos (starEach es X.env)).any (·.1) = false := by rfl)
    (ht : eval (.Call (.Attribute o m apos) (e :: es) [] pos) X.env = (eval o X.env >>= fun ov => standAt apos.atName >>= fun _ => holding [ov] (getMethod ov m pl) >>= fun r =>
      callWith pos r.1 r.2 (backTo pos (starEach (e :: es) X.env)) (backToKw pos (keywordEach [] X.env))) := by rfl) :
    PE X (.Call (.Attribute o m apos) (e :: es) [] pos) (tMS C m sp W ta t) := by
  obtain ⟨f, fd, M, F, b⟩ := D.ex
  refine ⟨fun pins s σ H Q I h => PySem.W.methodCall_KW (pl := pl) (thn (ho.run pins s σ H _ I h) fun u s1 z => ?_) ht⟩
  obtain ⟨v, H1, I1, rv, a, dx, fs, ev, ea, l, q⟩ := z
  subst ev
  cases rv
  refine getmeth_ok I1 ea c M l (PySem.W.callWith_K (first := [.ref a]) (h₀ := X.base) I.ok.mod.kin M.kp (thn (ha.run pos pins s1 σ H1 _ I1 q) fun us s2 y => ?_) hst hpl)
  obtain ⟨vs, H2, I2, r, q2⟩ := y
  exact ⟨I2.kIn, run_fnS (us := .ref a :: us) (vs := .ref a :: vs) F hr b (passAt tk σ) I2 (.cons rfl r) q2⟩
/-- o.m() -/
def tMS0 (C : Addr) (m : Str) (sp : Sp) (W : WX) (ta : TE) : TE := fun σ H Q => ta σ H fun x H1 => ∃ a dx fs, x = .ref a ∧ H1 a = some (.ins C dx fs) ∧ fs.lookup m = none ∧ sp [x] H1 Q (WE W σ)
theorem pe_m0 {pl : Sem Bool} (ho : PE X o ta) (c : Cls X.K C) (D : Mf X.prog X.w X.K X.mg X.base k C m ps sp) (hr : Room k X.A) (tk : Takes X W)
    (ht : eval (.Call (.Attribute o m apos) [] [] pos) X.env = (eval o X.env >>= fun ov => standAt apos.atName >>= fun _ => holding [ov] (getMethod ov m pl) >>= fun r =>
      callWith pos r.1 r.2 (backTo pos (starEach [] X.env)) (backToKw pos (keywordEach [] X.env))) := by rfl) :
    PE X (.Call (.Attribute o m apos) [] [] pos) (tMS0 C m sp W ta) := by
  obtain ⟨f, fd, M, F, b⟩ := D.ex
  refine ⟨fun pins s σ H Q I h => PySem.W.methodCall_KW (pl := pl) (thn (ho.run pins s σ H _ I h) fun u s1 z => ?_) ht⟩
  obtain ⟨v, H1, I1, rv, a, dx, fs, ev, ea, l, q⟩ := z
  subst ev
  cases rv
  exact getmeth_ok I1 ea c M l (PySem.W.callWith_K0 (first := [.ref a]) I1.kIn M.kp (run_fnS (us := [.ref a]) (vs := [.ref a]) F hr b (passAt tk σ) I1 (.cons rfl .nil) q))
end
/-! ### names of the top -/
section
variable {X : Cx} {x : Str} {pos : Pos}
theorem pe_gr {a : Addr} (hm : X.mg x = some (.ref a)) (hg : Gl X x := by rfl) (hd : (x == ("__debug__" : Str)) = false := by decide) : PE X (.Name x pos) (tC (.ref a)) := pe_glob (v := .ref a) hg hm rfl hd
theorem pe_gi {i : Int} (h : ∃ t, X.mg x = some (.int i t)) (hg : Gl X x := by rfl) (hd : (x == ("__debug__" : Str)) = false := by decide) : PE X (.Name x pos) (tC (.int i)) := by
  obtain ⟨t, hm⟩ := h
  exact pe_glob (v := .int i) hg hm ⟨t, rfl⟩ hd
theorem pe_gs {z : Str} (h : ∃ t, X.mg x = some (.str z t)) (hg : Gl X x := by rfl) (hd : (x == ("__debug__" : Str)) = false := by decide) : PE X (.Name x pos) (tC (.str z)) := by
  obtain ⟨t, hm⟩ := h
  exact pe_glob (v := .str z) hg hm ⟨t, rfl⟩ hd
/-- isinstance(e, T), T built in -/
def tIsi (K : PySem.W.Frag) (n : String) (te : TE) : TE := tCB (rIsi K) (tCons te (tCons (tC (.ty n)) tNil))
theorem pe_isi {e : Expr} {te : TE} {n : String} {p p2 : Pos} (T : Tx X.K X.mg) (he : PE X e te) (hx : X.mg x = none) (hv : bootBuiltins x = some (.type n)) (hg : Gl X "isinstance" := by rfl) (hg2 : Gl X x := by rfl)
    (hn : x ≠ "__name__" := by decide) (hd : (x == ("__debug__" : Str)) = false := by decide)
    (h1 : starEach (e :: [.Name x p2]) X.env = (false, eval e X.env) :: starEach [.Name x p2] X.env := by rfl) (h2 : (backTo pos (starEach [.Name x p2] X.env)).any (·.1) = false := by rfl)
    (h3 : starEach [.Name x p2] X.env = (false, eval (.Name x p2) X.env) :: starEach [] X.env := by rfl) :
    PE X (.Call (.Name "isinstance" p) [e, .Name x p2] [] pos) (tIsi X.K n te) :=
  pe_callB call_isi hg T.b_isinstance (by decide +kernel) (pa_cons he (pa_cons (pe_bltn (v := .ty n) hg2 hx hv rfl hn hd) pa_nil h3) h1) (by decide) (by decide) h1 h2
theorem isi_go {K : PySem.W.Frag} {H : Hp} {v : V} {t n : String} {b : Bool} {Q : VK} (ty : TyX K H v (.type t)) (e : kitB t n = some b) (q : Q (.bl b) H) : rIsi K [v, .ty n] H Q := ⟨v, .ty n, .type t, .type n, b, rfl, .ty n, ty, kit_ty e, q⟩
/-- len of a text, of a list or a tuple -/
def rLenT : List V → Hp → VK → Prop := fun xs H Q => ∃ z, xs = [.str z] ∧ z.length ≤ sizeLine ∧ Q (.int z.length) H
theorem pe_lenT {e : Expr} {te : TE} {p : Pos} (T : Tx X.K X.mg) (he : PE X e te) (hg : Gl X "len" := by rfl) (h1 : starEach (e :: []) X.env = (false, eval e X.env) :: starEach [] X.env := by rfl)
    (h2 : (backTo pos (starEach [] X.env)).any (·.1) = false := by rfl) : PE X (.Call (.Name "len" p) [e] [] pos) (tCB rLenT (tCons te tNil)) :=
  pe_callB call_len_str hg T.b_len PySem.boot_len (pa_cons he pa_nil h1) (by decide) (by decide) h1 h2
def rLenQ (K : PySem.W.Frag) : List V → Hp → VK → Prop := fun xs H Q => ∃ p ys, xs = [.ref p] ∧ (SqL K H p ys ∨ SqT K H p ys) ∧ Q (.int ys.length) H
theorem pe_lenQ {e : Expr} {te : TE} {p : Pos} (T : Tx X.K X.mg) (he : PE X e te) (hg : Gl X "len" := by rfl) (h1 : starEach (e :: []) X.env = (false, eval e X.env) :: starEach [] X.env := by rfl)
    (h2 : (backTo pos (starEach [] X.env)).any (·.1) = false := by rfl) : PE X (.Call (.Name "len" p) [e] [] pos) (tCB (rLenQ X.K) (tCons te tNil)) :=
  pe_callB call_len_seq hg T.b_len PySem.boot_len (pa_cons he pa_nil h1) (by decide) (by decide) h1 h2
end
/-! ### what is raised -/
/-- TextError(c, w) is wished for -/
def RTE (K : PySem.W.Frag) (E : XK) (H : Hp) (c : Int) (w : Str) : Prop := ∀ d H', Same H H' → H' d = some (.xd [("words", .str w), ("column", .int c)]) → E (.ref (He.ga K "TextError")) (some d) H'
/-- Ahead(os) is wished for -/
def RAH (K : PySem.W.Frag) (E : XK) (H : Hp) (os : List Str) : Prop := ∀ d q H', Same H H' → H' d = some (.xd [("options", .ref q)]) → H' q = some (.lst (os.map V.str)) → E (.ref (He.ga K "Ahead")) (some d) H'
theorem RTE.same {K : PySem.W.Frag} {E : XK} {H H1 : Hp} {c : Int} {w : Str} (h : RTE K E H c w) (e : Same H H1) : RTE K E H1 c w := fun d H' e' hd => h d H' (e.trans e') hd
theorem RAH.same {K : PySem.W.Frag} {E : XK} {H H1 : Hp} {os : List Str} (h : RAH K E H os) (e : Same H H1) : RAH K E H1 os := fun d q H' e' hd hq => h d q H' (e.trans e') hd hq
def spTE (C : Addr) : Sp := fun vs H Q _ => ∃ (a : Addr) (c : Int) (w : Str), vs = [.ref a, .int c, .str w] ∧ H a = some (exo a C none) ∧
  ∀ d H', H d = none → d ≠ a → H' a = some (exo a C (some d)) → H' d = some (exd d [("words", .str w), ("column", .int c)]) → But a H H' → Q .non H'
def spAh (C : Addr) : Sp := fun vs H Q _ => ∃ (a q : Addr), vs = [.ref a, .ref q] ∧ H a = some (exo a C none) ∧
  ∀ d H', H d = none → d ≠ a → H' a = some (exo a C (some d)) → H' d = some (exd d [("options", .ref q)]) → But a H H' → Q .non H'
section
variable {P : Program} {w : World} {K : PySem.W.Frag} {mg : Str → Option Value} {base : Heap}
theorem sc_TE : FnScope ["self", "column", "words"] ["self", "column", "words"] (defScope s_TextError_init) := ⟨rfl, rfl, rfl, by decide +kernel, rfl, by decide +kernel, by decide +kernel⟩
theorem ok_TE (T : Tx K mg) : ∃ fd, FnOk P w K mg base (L2.CX P w) 1 (He.ma K (He.ga K "TextError") "__init__") fd ["self", "column", "words"] (spTE (He.ga K "TextError")) ∧ Binds K fd ["self", "column", "words"] [] := by
  obtain ⟨fd, F⟩ := T.d_TextError_init
  refine ⟨fd, F.ok sc_TE (fun vs H Q E h => ?_) (fun cdv A outer s H vs Q E hr h => ?_), F.bindsN fun _ _ _ _ _ _ us hl => match us, hl with | [_, _, _], _ => rfl⟩
  · obtain ⟨a, c, x, rfl, _⟩ := h
    rfl
  · obtain ⟨a, c, x, rfl, ha, k⟩ := h
    refine ⟨_, pss_cons (ps_ost (pv 0) (pv 1)) (pss_one (ps_ost (pv 0) (pv 2))), ?_⟩
    refine ⟨_, rfl, _, rfl, a, He.ga K "TextError", rfl, T.te.o, T.n_column, .inl ⟨ha, fun d hd hne => ?_⟩⟩
    refine ⟨_, rfl, _, rfl, a, He.ga K "TextError", rfl, T.te.o, T.n_words, .inr ⟨d, _, upd_same, (upd_ne hne).trans upd_same, by show 1 ≤ 900; decide, ?_⟩⟩
    refine k d _ hd hne ((upd_ne hne.symm).trans upd_same) upd_same fun b o n e => ?_
    rw [upd_ne (ne_of_none e hd), upd_ne n, upd_ne (ne_of_none e hd)]
    exact e
theorem sc_Ah : FnScope ["self", "options"] ["self", "options"] (defScope s_Ahead_init) := ⟨rfl, rfl, rfl, by decide +kernel, rfl, by decide +kernel, by decide +kernel⟩
theorem ok_Ah (T : Tx K mg) : ∃ fd, FnOk P w K mg base (L2.CX P w) 1 (He.ma K (He.ga K "Ahead") "__init__") fd ["self", "options"] (spAh (He.ga K "Ahead")) ∧ Binds K fd ["self", "options"] [] := by
  obtain ⟨fd, F⟩ := T.d_Ahead_init
  refine ⟨fd, F.ok sc_Ah (fun vs H Q E h => ?_) (fun cdv A outer s H vs Q E hr h => ?_), F.bindsN fun _ _ _ _ _ _ us hl => match us, hl with | [_, _], _ => rfl⟩
  · obtain ⟨a, q, rfl, _⟩ := h
    rfl
  · obtain ⟨a, q, rfl, ha, k⟩ := h
    refine ⟨_, pss_one (ps_ost (pv 0) (pv 1)), ?_⟩
    refine ⟨_, rfl, _, rfl, a, He.ga K "Ahead", rfl, T.ah.o, T.n_options, .inl ⟨ha, fun d hd hne => ?_⟩⟩
    refine k d _ hd hne upd_same ((upd_ne hne).trans upd_same) fun b o n e => ?_
    rw [upd_ne n, upd_ne (ne_of_none e hd)]
    exact e
end
/-- raise TextError(e1, e2) -/
def tTE (K : PySem.W.Frag) (W : WX) (t : TA) : TS := fun _ σ H => tMkO (He.ga K "TextError") (spTE (He.ga K "TextError")) [] t σ H fun cls d H' => W cls d σ H'
theorem ps_te {X : Cx} {W : WX} {k : Nat} {e1 e2 : Expr} {t : TA} {p pos pos2 : Pos} (T : Tx X.K X.mg) (hc : X.calm = true) (hr : Room k X.A) (tk : Takes X W) (ha : PA X [e1, e2] t) (hk : 2 ≤ k := by decide) (hg : Gl X "TextError" := by rfl)
    (he : starEach (e1 :: [e2]) X.env = (false, eval e1 X.env) :: starEach [e2] X.env := by rfl) (hpl : (backTo pos (starEach [e2] X.env)).any (·.1) = false := by rfl) :
    PS X (.Raise (some (.Call (.Name "TextError" p) [e1, e2] [] pos)) none pos2) (tTE X.K W t) := by
  obtain ⟨fd, F, b⟩ := ok_TE (P := X.prog) (w := X.w) (base := X.base) T
  exact ps_raise hc tk (pmk_oex T.te.o T.te.i T.te.t F (hr.mono hk) b .nil passL hg T.g_TextError ha (by decide) he hpl)
/-- what is left behind the arguments -/
theorem te_go {K : PySem.W.Frag} {E : XK} {H : Hp} {c : Int} {x : Str} {C : Addr} (eC : C = He.ga K "TextError") (h : RTE K E H c x) : [V.int c, V.str x].length ≤ 1000 ∧ ∀ a, H a = none → spTE C (.ref a :: ([V.int c, V.str x] ++ [])) (upd H a (exo a C none))
    (fun v H2 => v = .non ∧ ∃ (d : Addr) (fs : List (Str × V)), H2 a = some (exo a C (some d)) ∧ H2 d = some (exd d fs) ∧ H d = none ∧ E (.ref C) (some d) (upd (del H2 a) d (.xd fs))) (fun _ _ _ => False) := by
  subst eC
  refine ⟨by show 2 ≤ 1000; decide, fun a hn => ⟨a, c, x, rfl, upd_same, fun d H' hd hne h1 h2 hb => ⟨rfl, d, _, h1, h2, ?_, h d _ (fun b o e => ?_) upd_same⟩⟩⟩
  · rw [upd_ne hne] at hd
    exact hd
  · have hd' : H d = none := by
      rw [upd_ne hne] at hd
      exact hd
    rw [upd_ne (ne_of_none e hd'), del_ne (ne_of_none e hn)]
    exact hb b o (ne_of_none e hn) (by rw [upd_ne (ne_of_none e hn)]; exact e)
/-- raise Ahead(e) -/
def tAh (K : PySem.W.Frag) (W : WX) (t : TA) : TS := fun _ σ H => tMkO (He.ga K "Ahead") (spAh (He.ga K "Ahead")) [] t σ H fun cls d H' => W cls d σ H'
theorem ps_ah {X : Cx} {W : WX} {k : Nat} {e1 : Expr} {t : TA} {p pos pos2 : Pos} (T : Tx X.K X.mg) (hc : X.calm = true) (hr : Room k X.A) (tk : Takes X W) (ha : PA X [e1] t) (hk : 2 ≤ k := by decide) (hg : Gl X "Ahead" := by rfl)
    (he : starEach (e1 :: []) X.env = (false, eval e1 X.env) :: starEach [] X.env := by rfl) (hpl : (backTo pos (starEach [] X.env)).any (·.1) = false := by rfl) :
    PS X (.Raise (some (.Call (.Name "Ahead" p) [e1] [] pos)) none pos2) (tAh X.K W t) := by
  obtain ⟨fd, F, b⟩ := ok_Ah (P := X.prog) (w := X.w) (base := X.base) T
  exact ps_raise hc tk (pmk_oex T.ah.o T.ah.i T.ah.t F (hr.mono hk) b .nil passL hg T.g_Ahead ha (by decide) he hpl)
theorem ah_go {K : PySem.W.Frag} {E : XK} {H : Hp} {q : Addr} {os : List Str} {C : Addr} (eC : C = He.ga K "Ahead") (hq : H q = some (.lst (os.map V.str))) (h : RAH K E H os) : [V.ref q].length ≤ 1000 ∧ ∀ a, H a = none → spAh C (.ref a :: ([V.ref q] ++ [])) (upd H a (exo a C none))
    (fun v H2 => v = .non ∧ ∃ (d : Addr) (fs : List (Str × V)), H2 a = some (exo a C (some d)) ∧ H2 d = some (exd d fs) ∧ H d = none ∧ E (.ref C) (some d) (upd (del H2 a) d (.xd fs))) (fun _ _ _ => False) := by
  subst eC
  refine ⟨by show 1 ≤ 1000; decide, fun a hn => ⟨a, q, rfl, upd_same, fun d H' hd hne h1 h2 hb => ?_⟩⟩
  have hd' : H d = none := by
    rw [upd_ne hne] at hd
    exact hd
  have sm : Same H (upd (del H' a) d (.xd [("options", .ref q)])) := fun b o e => by
    rw [upd_ne (ne_of_none e hd'), del_ne (ne_of_none e hn)]
    exact hb b o (ne_of_none e hn) (by rw [upd_ne (ne_of_none e hn)]; exact e)
  exact ⟨rfl, d, _, h1, h2, hd', h d q _ sm upd_same (sm _ _ hq)⟩
end K6

set_option Elab.async false
set_option linter.all false
set_option maxRecDepth 100000
set_option maxHeartbeats 0
namespace K6
open PySem PySem.Spec PyProof.Rows L2
/-! ### the head: the facts read off the run of the top -/
abbrev R6 : PySem.W.OpenRow := PySem.W.OpenLaw.row PySem.Challenge.rw_rulerows_k69_whole_what_can_come
def seen6 (g : Addr → Option Obj) : He.AlD × Bool := (He.obsDG 5 fa fn g, exB (He.frG g (He.asD g 5)))
def hk6 : PySem.W.Hook where
  α := He.AlD × Bool
  obs := fun s => seen6 s.heap.get?
  val := fun _ => (He.valD fn, true)
  says := fun _ h => ∃ K : PySem.W.Frag, K.In h ∧ He.SaysD fa fn K ∧ exB K = true
  of := fun _ _ e => ⟨_, He.frG_in, congrArg (fun z : He.AlD × Bool => z.1) e, congrArg (fun z : He.AlD × Bool => z.2) e⟩
  keeps := fun _ _ _ ⟨K, hK, c, d⟩ k => ⟨K, PySem.W.Frag.In.keeps hK k, c, d⟩
def ob6 (s : PySem.W.SharedT) : He.AlD × Bool := seen6 (HandSHeadRun.getT s)
theorem ob6_eq (s : PySem.W.SharedT) : ob6 s = hk6.obs s.abs := by
  have e : HandSHeadRun.getT s = s.abs.heap.get? := funext (HandSHeadRun.getT_eq s)
  show seen6 (HandSHeadRun.getT s) = seen6 s.abs.heap.get?
  rw [e]
def lo1 : List PySem.Str := ["RowError", "BadValue", "TextError", "MOST_FIELDS", "MOST_WIDTH", "MOST_RULES", "LAST_ACTION", "is_between", "is_widths", "is_range", "is_rule", "is_list", "check_list", "LOWER", "DIGITS", "TOKEN_WORDS", "SIGNS", "LONGEST_TEXT", "MOST_DIGITS", "check_text", "chars_at", "token_at", "scan", "KINDS", "FIELDS", "shown", "in_order", "joined", "Ahead", "Parser"]
def lo2 : List PySem.Str := ["next_tokens", "widths_of", "action_of", "value_of", "range_of", "rule_of", "read_list", "read_row", "read_case", "_law_stream", "_law_next", "_law_is_integer", "_law_equal", "_law_pick", "_law_laid", "_law_shown", "_law_kinds", "_law_listed", "_law_table", "_law_due", "_law_told", "_law_token", "_law_is_right", "_law_goes_on"]
def lo6 : List PySem.Str := lo1 ++ lo2
theorem run6 (w : World) : HandSHeadRun.RunEq R6 (PySem.W.view R6.prog [59]) hk6 ob6 4000 lo6 w := by
  intro os
  kernel_rfl
end K6

set_option Elab.async false
set_option linter.all false
set_option maxRecDepth 100000
set_option maxHeartbeats 4000000
set_option autoImplicit false
namespace K6
open PySem PySem.Spec PyProof.Rows L2
open TL (tl len_tl ext_tl)
/-! ### check_text, chars_at -/
def tw (y : Str) (l : List Nat) : List Nat := l.takeWhile fun c => decide (c ∈ tl y)
def mkS (l : List Nat) : Str := ⟨l.toArray⟩
theorem tl_mkS (l : List Nat) : tl (mkS l) = l := rfl
theorem len_mkS (l : List Nat) : (mkS l).length = l.length := by simp [mkS, Str.length]
theorem cut_nat (z : Str) (a b : Nat) (ha : a ≤ b) (hb : b ≤ z.length) : cutS z (some (a : Int)) (some (b : Int)) = mkS (((tl z).drop a).take (b - a)) := by
  unfold cutS mkS
  rw [HT.sIx_nat, HT.sIx_nat, Nat.min_eq_left hb, Nat.min_eq_left (Nat.le_trans ha hb)]
theorem drop_at {l : List Nat} {e : Nat} (h : e < l.length) : ∃ c, l[e]? = some c ∧ l.drop e = c :: l.drop (e + 1) := ⟨l[e], List.getElem?_eq_getElem h, List.drop_eq_getElem_cons h⟩
theorem tw_step {y : Str} {l : List Nat} {a e c : Nat} (ha : a ≤ e) (hc : l[e]? = some c) (hy : c ∈ tl y) (h : tw y (l.drop a) = (l.drop a).take (e - a) ++ tw y (l.drop e)) :
    tw y (l.drop a) = (l.drop a).take (e + 1 - a) ++ tw y (l.drop (e + 1)) := by
  have hl : e < l.length := (List.getElem?_eq_some_iff.mp hc).1
  obtain ⟨c', h1, h2⟩ := drop_at hl
  rw [hc] at h1
  cases h1
  have e1 : tw y (l.drop e) = c :: tw y (l.drop (e + 1)) := by
    rw [h2]
    unfold tw
    rw [List.takeWhile_cons_of_pos (by simpa using hy)]
  have e2 : (l.drop a).take (e + 1 - a) = (l.drop a).take (e - a) ++ [c] := by
    have q : (l.drop a)[e - a]? = some c := by
      rw [List.getElem?_drop, show a + (e - a) = e by omega]
      exact hc
    have q2 : e + 1 - a = (e - a) + 1 := by omega
    rw [q2, List.take_add_one, q]
    rfl
  rw [h, e1, e2, List.append_assoc]
  rfl
def spChars : Sp := fun vs H Q _ => ∃ (z y : Str) (a : Nat), vs = [.str z, .int a, .str y] ∧ a ≤ z.length ∧ z.length ≤ 1000 ∧ Q (.str (mkS (tw y ((tl z).drop a)))) H
def spCheck : Sp := fun vs H Q _ => ∃ z : Str, vs = [.str z] ∧ z.length ≤ 400 ∧ 10 ∉ tl z ∧ Q .non H
section
variable {P : Program} {w : World} {K : PySem.W.Frag} {mg : Str → Option Value} {base : Heap}
theorem sc_chars : FnScope ["text", "at", "chars", "end"] ["text", "at", "chars"] (defScope s_chars_at) := ⟨rfl, rfl, rfl, by decide +kernel, rfl, by decide +kernel, by decide +kernel⟩
theorem ok_chars (T : Tx K mg) : Df P w K mg base 1 "chars_at" ["text", "at", "chars"] spChars := by
  refine df_mk T.g_chars_at T.d_chars_at sc_chars (fun vs H Q E h => ?_) (fun _ _ _ _ _ _ us hl => match us, hl with | [_, _, _], _ => rfl) (fun cdv A outer s H vs Q E hr h => ?_)
  · obtain ⟨z, y, a, rfl, _⟩ := h
    rfl
  · obtain ⟨z, y, a, rfl, ha, hz, k⟩ := h
    refine ⟨_, pss_cons (ps_set (i := 3) sc_chars.nd rfl (Or.inl rfl) (pv 1))
      (pss_cons (ps_while pwE (PW.pt (pw_and (pt_cmpR op_lt (pv 3) (pe_lenT T (pv 0)) (nomark _))
          (pw_and1 (pt_cmpR op_in_sign (pe_ix ix_str (pv 0) (pv 3) (fun _ _ => rfl)) (pv 2) rfl))))
        (pss_one (ps_set (i := 3) sc_chars.nd rfl (Or.inl rfl) (pe_op op_add (pv 3) pe_int))))
      (pss_one (ps_ret (pe_slice sl_str (pv 0) (po_some (pv 1)) (po_some (pv 3)))))), ?_⟩
    have hsz : z.length ≤ sizeLine := Evl.sz_of (by omega)
    have hl : (tl z).length = z.length := (len_tl z).symm
    refine ⟨_, rfl, fun m σ H' => ∃ e : Nat, σ = [some (.str z), some (.int a), some (.str y), some (.int e)] ∧ H' = H ∧ a ≤ e ∧ e ≤ z.length ∧ m = z.length - e ∧ tw y ((tl z).drop a) = ((tl z).drop a).take (e - a) ++ tw y ((tl z).drop e),
      ⟨_, a, rfl, rfl, Nat.le_refl _, ha, rfl, by simp⟩, ?_⟩
    rintro m σ H' ⟨e, rfl, rfl, h1, h2, rfl, h3⟩
    have stop : tw y ((tl z).drop e) = [] → tRet (tSl rSlS (tVar 0) (tPart (tVar 1)) (tPart (tVar 3))) { nx := fun _ H' => Q .non H', rt := Q } [some (.str z), some (.int a), some (.str y), some (.int e)] H' := fun h4 => by
      refine ⟨_, rfl, _, rfl, _, rfl, _, rfl, _, rfl, z, rfl, hsz, ?_⟩
      rw [h4, List.append_nil] at h3
      rw [cut_nat z a e h1 h2, ← h3]
      exact k
    refine ⟨_, rfl, _, rfl, z, rfl, hsz, _, _, rfl, rfl, _, rfl, ?_⟩
    by_cases hlt : (e : Int) < z.length
    · rw [decide_eq_true hlt]
      obtain ⟨c, hc, hd⟩ := drop_at (l := tl z) (e := e) (by omega)
      refine iteT ⟨_, rfl, _, rfl, z, (e : Int), c, rfl, rfl, hsz, atI_nat hc, _, rfl, c, y, rfl, rfl, _, rfl, ?_⟩
      by_cases hy : c ∈ tl y
      · rw [decide_eq_true hy]
        refine iteT ⟨_, fun σ' H' n => n, _, rfl, _, _, rfl, rfl, z.length - (e + 1), by omega, e + 1, rfl, rfl, by omega, by omega, rfl, tw_step h1 hc hy h3⟩
      · rw [decide_eq_false hy]
        refine iteF (stop ?_)
        rw [hd]
        unfold tw
        rw [List.takeWhile_cons_of_neg (by simpa using hy)]
    · rw [decide_eq_false hlt]
      refine iteF (iteF (stop ?_))
      rw [List.drop_eq_nil_of_le (by omega)]
      rfl
end
end K6

set_option Elab.async false
set_option linter.all false
set_option maxRecDepth 100000
set_option maxHeartbeats 4000000
set_option autoImplicit false
namespace K6
open PySem PySem.Spec PyProof.Rows L2
open TL (tl len_tl ext_tl)
theorem cut_any (z : Str) (a b : Nat) (ha : a ≤ b) (hz : a ≤ z.length) : cutS z (some (a : Int)) (some (b : Int)) = mkS (((tl z).drop a).take (b - a)) := by
  unfold cutS mkS
  rw [HT.sIx_nat, HT.sIx_nat, Nat.min_eq_left hz]
  by_cases hb : b ≤ z.length
  · rw [Nat.min_eq_left hb]
  · have hl : (tl z).length = z.length := (len_tl z).symm
    rw [Nat.min_eq_right (by omega), List.take_of_length_le (by rw [List.length_drop, hl]; omega), List.take_of_length_le (by rw [List.length_drop, hl]; omega)]
theorem inV_strs (x : Str) : ∀ ys : List Str, inV (.str x) (ys.map V.str) = decide (x ∈ ys)
  | [] => (decide_eq_false (by simp)).symm
  | y :: ys => by
    show ((y == x) || inV (.str x) (ys.map V.str)) = _
    rw [inV_strs x ys]
    by_cases h : y = x
    · subst h
      simp
    · have h2 : ¬ x = y := fun q => h q.symm
      have h3 : (y == x) = false := beq_eq_false_iff_ne.mpr h
      rw [h3, Bool.false_or]
      exact decide_eq_decide.mpr ⟨fun m => List.mem_cons_of_mem _ m, fun m => (List.mem_cons.mp m).resolve_left h2⟩
/-! ### a token, as the text has it -/
def low : Str := "abcdefghijklmnopqrstuvwxyz"
def dig : Str := "0123456789"
def sgs : List Str := [":", ";", "*", ".."]
def hit (l : List Nat) (s : Str) : Bool := decide (mkS (l.take s.length) = s)
def numM (nu : Str) : Sum (Str × Str) Str := if nu = "" then .inr "no token begins here" else if 6 < nu.length then .inr "a number has at most 6 digits" else .inl ("number", nu)
def wordM (lt nu : Str) : Sum (Str × Str) Str := if lt ∈ ([("if" : Str), "else"] : List Str) then .inl ("word", lt) else if lt = "" then numM nu else .inr "there is no such word"
def tokM (l : List Nat) : Sum (Str × Str) Str := match sgs.find? (hit l) with
  | some s => .inl ("sign", s)
  | none => wordM (mkS (tw low l)) (mkS (tw dig l))
def spTok (K : PySem.W.Frag) : Sp := fun vs H Q E => ∃ (z : Str) (a : Nat), vs = [.str z, .int a] ∧ a ≤ z.length ∧ z.length ≤ 400 ∧ match tokM ((tl z).drop a) with
  | .inl (k, c) => ∀ p H', Same H H' → H p = none → H' p = some (.tup [.str k, .str c, .int ((a : Int) + 1)]) → Q (.ref p) H'
  | .inr x => RTE K E H ((a : Int) + 1) x
section
variable {P : Program} {w : World} {K : PySem.W.Frag} {mg : Str → Option Value} {base : Heap}
theorem sc_check : FnScope ["text"] ["text"] (defScope s_check_text) := ⟨rfl, rfl, rfl, by decide +kernel, rfl, by decide +kernel, by decide +kernel⟩
theorem nl_lit : (Str.ofString "\n") = ⟨#[10]⟩ := by decide +kernel
theorem ok_check (T : Tx K mg) : Df P w K mg base 1 "check_text" ["text"] spCheck := by
  refine df_mk T.g_check_text T.d_check_text sc_check (fun vs H Q E h => ?_) (fun _ _ _ _ _ _ us hl => match us, hl with | [_], _ => rfl) (fun cdv A outer s H vs Q E hr h => ?_)
  · obtain ⟨z, rfl, _⟩ := h
    rfl
  · obtain ⟨z, rfl, hz, hn, k⟩ := h
    refine ⟨_, pss_one (ps_if (PW.pt (pw_or (pt_not (pt_val (pe_isi (n := "str") T (pv 0) T.b_str (by decide +kernel))))
      (pw_or (pt_cmpR op_gt (pe_lenT T (pv 0)) (pe_gi T.i_LONGEST_TEXT) (nomark _))
        (pw_or1 (pt_cmpR op_in_sign pe_str (pv 0) rfl))))) pss_never pss_nil), ?_⟩
    refine ⟨_, rfl, _, _, _, _, true, rfl, .ty _, .base (.str z), kit_ty (by decide +kernel), _, rfl, iteF ?_⟩
    refine ⟨_, rfl, z, rfl, Evl.sz_of (by omega), _, _, rfl, rfl, _, rfl, ?_⟩
    rw [decide_eq_false (by omega)]
    refine iteF ⟨_, rfl, 10, z, congrArg V.str nl_lit, rfl, _, rfl, ?_⟩
    rw [decide_eq_false hn]
    exact iteF k
theorem sc_tok : FnScope ["text", "at", "sign", "letters", "number"] ["text", "at"] (defScope s_token_at) := ⟨rfl, rfl, rfl, by decide +kernel, rfl, by decide +kernel, by decide +kernel⟩
theorem ok_tok (T : Tx K mg) : Df P w K mg base 3 "token_at" ["text", "at"] (spTok K) := by
  have DC : Df P w K mg base 1 "chars_at" ["text", "at", "chars"] spChars := ok_chars T
  refine df_mk T.g_token_at T.d_token_at sc_tok (fun vs H Q E h => ?_) (fun _ _ _ _ _ _ us hl => match us, hl with | [_, _], _ => rfl) (fun cdv A outer s H vs Q E hr h => ?_)
  · obtain ⟨z, a, rfl, _⟩ := h
    rfl
  · obtain ⟨z, a, rfl, ha, hz, k⟩ := h
    have hr1 : Room 1 _ := hr.mono (by decide)
    refine ⟨_, pss_cons (ps_for pwE rfl (pi_tup (pe_gr T.g_SIGNS)) (pg_name (i := 2) sc_tok.nd rfl (Or.inl rfl))
        (pss_one (ps_if (pt_cmpR op_eq (pe_slice sl_str (pv 0) (po_some (pv 1)) (po_some (pe_op op_add (pv 1) (pe_lenT T (pv 2))))) (pv 2) (nomark _))
          (pss_one (ps_ret (pe_tup (pa_cons pe_str (pa_cons (pv 2) (pa_cons (pe_op op_add (pv 1) pe_int) pa_nil)))))) pss_nil)))
      (pss_cons (ps_set (i := 3) sc_tok.nd rfl (Or.inl rfl) (pe_d DC hr1 takes0 (pa_cons (pv 0) (pa_cons (pv 1) (pa_cons (pe_gs T.s_LOWER) pa_nil)))))
      (pss_cons (ps_if (pt_cmpR op_in_seq (pv 3) (pe_gr T.g_TOKEN_WORDS) rfl)
          (pss_one (ps_ret (pe_tup (pa_cons pe_str (pa_cons (pv 3) (pa_cons (pe_op op_add (pv 1) pe_int) pa_nil)))))) pss_nil)
      (pss_cons (ps_if (pt_cmpR op_ne (pv 3) pe_str (nomark _)) (pss_one (ps_te T rfl hr tkE (pa_cons (pe_op op_add (pv 1) pe_int) (pa_cons pe_str pa_nil)))) pss_nil)
      (pss_cons (ps_set (i := 4) sc_tok.nd rfl (Or.inl rfl) (pe_d DC hr1 takes0 (pa_cons (pv 0) (pa_cons (pv 1) (pa_cons (pe_gs T.s_DIGITS) pa_nil)))))
      (pss_cons (ps_if (pt_cmpR op_eq (pv 4) pe_str (nomark _)) (pss_one (ps_te T rfl hr tkE (pa_cons (pe_op op_add (pv 1) pe_int) (pa_cons pe_str pa_nil)))) pss_nil)
      (pss_cons (ps_if (pt_cmpR op_gt (pe_lenT T (pv 4)) (pe_gi T.i_MOST_DIGITS) (nomark _)) (pss_one (ps_te T rfl hr tkE (pa_cons (pe_op op_add (pv 1) pe_int) (pa_cons pe_str pa_nil)))) pss_nil)
      (pss_one (ps_ret (pe_tup (pa_cons pe_str (pa_cons (pv 4) (pa_cons (pe_op op_add (pv 1) pe_int) pa_nil)))))))))))), ?_⟩
    have hsz : z.length ≤ sizeLine := Evl.sz_of (by omega)
    have hld : ((tl z).drop a).length ≤ 400 := by
      rw [List.length_drop, ← len_tl z]
      omega
    have htw : ∀ y : Str, (mkS (tw y ((tl z).drop a))).length ≤ 400 := fun y => by
      rw [len_mkS]
      exact Nat.le_trans (List.takeWhile_sublist _).length_le hld
    -- what is told when a tuple is made
    have tell : ∀ (kd c : Str), tokM ((tl z).drop a) = .inl (kd, c) → ∀ p, H p = none → Q (.ref p) (upd H p (.tup [.str kd, .str c, .int ((a : Int) + 1)])) := fun kd c e p hp => by
      rw [e] at k
      exact k p _ (same_new hp) hp upd_same
    have fall : ∀ x : Str, tokM ((tl z).drop a) = .inr x → RTE K E H ((a : Int) + 1) x := fun x e => by
      rw [e] at k
      exact k
    refine ⟨_, rfl, ⟨_, T.t_SIGNS H⟩, for_tup (K := K) (xs := [.str ":", .str ";", .str "*", .str ".."]) (fun i σ H' => H' = H ∧ (∃ v, σ = [some (.str z), some (.int a), v, none, none]) ∧ ∀ j s, j < i → sgs[j]? = some s → hit ((tl z).drop a) s = false)
      ⟨rfl, ⟨none, rfl⟩, fun j _ h => absurd h (Nat.not_lt_zero j)⟩ (fun i σ H' _ ⟨e, _⟩ => e ▸ T.t_SIGNS H) ?_ ?_⟩
    · rintro i x σ H' hi ⟨rfl, ⟨v, rfl⟩, hn⟩
      obtain ⟨s, rfl, hs, hl⟩ : ∃ s : Str, x = .str s ∧ sgs[i]? = some s ∧ s.length ≤ 2 := by
        match i, hi with
        | 0, e => cases e; exact ⟨_, rfl, rfl, by decide +kernel⟩
        | 1, e => cases e; exact ⟨_, rfl, rfl, by decide +kernel⟩
        | 2, e => cases e; exact ⟨_, rfl, rfl, by decide +kernel⟩
        | 3, e => cases e; exact ⟨_, rfl, rfl, by decide +kernel⟩
        | n + 4, e => simp at e
      have ec : cutS z (some (a : Int)) (some ((a : Int) + (s.length : Int))) = mkS (((tl z).drop a).take s.length) := by
        have q := cut_any z a (a + s.length) (by omega) ha
        rw [show a + s.length - a = s.length by omega] at q
        exact q
      refine ⟨_, rfl, _, rfl, _, rfl, _, rfl, _, rfl, s, rfl, Evl.sz_of (by omega), _, _, rfl, rfl, _, rfl, z, rfl, hsz, _, rfl, rfl, _, rfl, ?_⟩
      rw [ec]
      by_cases hh : mkS (((tl z).drop a).take s.length) = s
      · rw [hh, decide_eq_true rfl]
        refine iteT ⟨_, rfl, _, rfl, _, _, rfl, rfl, by show 3 ≤ sizeLine; decide, ?_⟩
        refine tell "sign" s ?_
        unfold tokM
        have e : sgs.find? (hit ((tl z).drop a)) = some s := by
          rw [List.find?_eq_some_iff_append]
          have hil : i < sgs.length := (List.getElem?_eq_some_iff.mp hs).1
          refine ⟨by unfold hit; exact decide_eq_true hh, sgs.take i, sgs.drop (i + 1), ?_, fun b hb => ?_⟩
          · rw [← (List.getElem?_eq_some_iff.mp hs).2, ← List.drop_eq_getElem_cons hil, List.take_append_drop]
          · obtain ⟨j, hj, ej⟩ := List.mem_iff_getElem.mp hb
            have hj2 : j < i := by
              rw [List.length_take] at hj
              omega
            rw [List.getElem_take] at ej
            have := hn j b hj2 (by rw [List.getElem?_eq_getElem (by omega), ej])
            rw [this]
            rfl
        rw [e]
      · rw [decide_eq_false (fun q => hh (V.str.inj q))]
        refine iteF ⟨rfl, ⟨_, rfl⟩, fun j s' hj e => ?_⟩
        by_cases hji : j = i
        · subst hji
          rw [hs] at e
          cases e
          unfold hit
          exact decide_eq_false hh
        · exact hn j s' (by omega) e
    · rintro σ H' ⟨rfl, ⟨v, rfl⟩, hn⟩
      have e0 : tokM ((tl z).drop a) = wordM (mkS (tw low ((tl z).drop a))) (mkS (tw dig ((tl z).drop a))) := by
        have e : sgs.find? (hit ((tl z).drop a)) = none := by
          rw [List.find?_eq_none]
          intro s hs
          obtain ⟨j, hj, ej⟩ := List.mem_iff_getElem.mp hs
          rw [hn j s hj (by rw [List.getElem?_eq_getElem hj, ej])]
          exact Bool.false_ne_true
        unfold tokM
        rw [e]
      rw [e0] at tell fall
      generalize ew : mkS (tw low ((tl z).drop a)) = lt at tell fall
      generalize en : mkS (tw dig ((tl z).drop a)) = nu at tell fall
      have hlt : lt.length ≤ 400 := ew ▸ htw low
      have hnu : nu.length ≤ 400 := en ▸ htw dig
      refine ⟨_, rfl, _, rfl, z, _, a, rfl, ha, by omega, ?_⟩
      rw [show mkS (tw (Str.ofString "abcdefghijklmnopqrstuvwxyz") ((tl z).drop a)) = lt from ew]
      have htup : ∀ kd c : Str, [V.str kd, V.str c, V.int ((a : Int) + 1)].length ≤ sizeLine := fun _ _ => by show 3 ≤ sizeLine; decide
      have ein : inV (.str lt) [.str "if", .str "else"] = decide (lt ∈ ([("if" : Str), "else"] : List Str)) := inV_strs lt ["if", "else"]
      refine ⟨_, rfl, _, _, rfl, .inr (T.t_TOKEN_WORDS H'), rfl, rfl, _, rfl, ?_⟩
      rw [if_neg Bool.false_ne_true, ein]
      by_cases hw : lt ∈ ([("if" : Str), "else"] : List Str)
      · rw [decide_eq_true hw]
        refine iteT ⟨_, rfl, _, rfl, _, _, rfl, rfl, htup _ _, ?_⟩
        exact tell "word" lt (by unfold wordM; rw [if_pos hw])
      · rw [decide_eq_false hw]
        refine iteF ⟨_, rfl, rfl, _, rfl, ?_⟩
        by_cases hem : lt = ""
        · rw [hem, decide_eq_true rfl]
          refine iteF ⟨_, rfl, _, rfl, z, _, a, rfl, ha, by omega, ?_⟩
          have e1 : wordM lt nu = numM nu := by
            unfold wordM
            rw [if_neg hw, if_pos hem]
          rw [e1] at tell fall
          rw [show mkS (tw (Str.ofString "0123456789") ((tl z).drop a)) = nu from en]
          refine ⟨_, rfl, rfl, _, rfl, ?_⟩
          by_cases hn0 : nu = ""
          · rw [hn0, decide_eq_true rfl]
            refine iteT ⟨_, rfl, _, _, rfl, rfl, te_go rfl (fall _ ?_)⟩
            unfold numM
            rw [if_pos hn0]
          · rw [decide_eq_false (fun q => hn0 (V.str.inj q))]
            refine iteF ⟨_, rfl, nu, rfl, Evl.sz_of (by omega), _, _, rfl, rfl, _, rfl, ?_⟩
            by_cases h6 : (6 : Int) < nu.length
            · rw [decide_eq_true h6]
              refine iteT ⟨_, rfl, _, _, rfl, rfl, te_go rfl (fall _ ?_)⟩
              unfold numM
              rw [if_neg hn0, if_pos (by omega)]
            · rw [decide_eq_false h6]
              refine iteF ⟨_, rfl, _, rfl, _, _, rfl, rfl, htup _ _, ?_⟩
              refine tell "number" nu ?_
              unfold numM
              rw [if_neg hn0, if_neg (by omega)]
        · rw [decide_eq_false (fun q => hem (V.str.inj q))]
          refine iteT ⟨_, rfl, _, _, rfl, rfl, te_go rfl (fall _ ?_)⟩
          unfold wordM
          rw [if_neg hw, if_neg hem]
end
end K6

set_option Elab.async false
set_option linter.all false
set_option maxRecDepth 100000
set_option maxHeartbeats 4000000
set_option autoImplicit false
namespace K6
open PySem PySem.Spec PyProof.Rows L2
open TL (tl len_tl ext_tl)
/-! ### kinds of tokens, words, layouts: plain mathematics -/
inductive Kd where
  | num | iff | els | col | sem | sta | dot | fin
  deriving DecidableEq
def kds : List Kd := [.num, .iff, .els, .col, .sem, .sta, .dot, .fin]
/-- the law's name of a kind -/
def Kd.law : Kd → Str
  | .num => "number" | .iff => "if" | .els => "else" | .col => ":" | .sem => ";" | .sta => "*" | .dot => ".." | .fin => "end"
/-- how it is told -/
def Kd.shown : Kd → Str
  | .num => "a number" | .iff => "if" | .els => "else" | .col => "\":\"" | .sem => "\";\"" | .sta => "\"*\"" | .dot => "\"..\"" | .fin => "the end"
/-- a token's first part -/
def Kd.cls : Kd → Str
  | .num => "number" | .iff => "word" | .els => "word" | .col => "sign" | .sem => "sign" | .sta => "sign" | .dot => "sign" | .fin => "end"
def nums : List Str := ["0", "1", "3", "9", "000005"]
def Wd (k : Kd) (x : Str) : Prop := (k = .num ∧ x ∈ nums) ∨ (k ≠ .num ∧ k ≠ .fin ∧ x = k.law)
theorem mkS_tl (x : Str) : mkS (tl x) = x := ext_tl rfl
theorem tl_app (x y : Str) : tl (x ++ y) = tl x ++ tl y := by
  show (x.cps ++ y.cps).toList = _
  simp [tl]
/-! ### what token_at sees -/
theorem tw_all {y : Str} {r : List Nat} : ∀ w : List Nat, (∀ c ∈ w, c ∈ tl y) → tw y (w ++ r) = w ++ tw y r
  | [], _ => rfl
  | c :: w, h => by
    have hc : c ∈ tl y := h c List.mem_cons_self
    have ih := tw_all (y := y) (r := r) w fun d hd => h d (List.mem_cons_of_mem _ hd)
    show tw y (c :: (w ++ r)) = c :: (w ++ tw y r)
    rw [← ih]
    unfold tw
    rw [List.takeWhile_cons_of_pos (by simpa using hc)]
/-- what follows does not go on in y -/
def Stop (y : Str) (r : List Nat) : Prop := ∀ c r', r = c :: r' → c ∉ tl y
theorem tw_stop {y : Str} : ∀ {r : List Nat}, Stop y r → tw y r = []
  | [], _ => rfl
  | c :: r, h => by
    have hc := h c r rfl
    unfold tw
    rw [List.takeWhile_cons_of_neg (by simpa using hc)]
theorem tw_word {y : Str} {w r : List Nat} (h : ∀ c ∈ w, c ∈ tl y) (s : Stop y r) : tw y (w ++ r) = w := by
  rw [tw_all w h, tw_stop s, List.append_nil]
theorem tw_not {y : Str} {c : Nat} {r : List Nat} (h : c ∉ tl y) : tw y (c :: r) = [] := tw_stop fun d r' e => by
  cases e
  exact h
theorem hit_no {c d : Nat} {r ds : List Nat} {s : Str} (e : tl s = d :: ds) (h : c ≠ d) : hit (c :: r) s = false := by
  refine decide_eq_false fun q => ?_
  have q1 : (c :: r).take s.length = tl s := congrArg tl q
  have q2 : s.length = ds.length + 1 := by rw [len_tl, e]; rfl
  rw [e, q2, List.take_succ_cons] at q1
  exact h (List.cons.inj q1).1
theorem hit_yes {s : Str} {r : List Nat} : hit (tl s ++ r) s = true := by
  refine decide_eq_true ?_
  rw [len_tl, List.take_left]
  exact mkS_tl s
theorem sg1 : tl (":" : Str) = [58] := by decide +kernel
theorem sg2 : tl (";" : Str) = [59] := by decide +kernel
theorem sg3 : tl ("*" : Str) = [42] := by decide +kernel
theorem sg4 : tl (".." : Str) = [46, 46] := by decide +kernel
theorem no_sign {c : Nat} {r : List Nat} (h1 : c ≠ 58) (h2 : c ≠ 59) (h3 : c ≠ 42) (h4 : c ≠ 46) : sgs.find? (hit (c :: r)) = none := by
  rw [List.find?_eq_none]
  intro s hs
  have hs' : s = ":" ∨ s = ";" ∨ s = "*" ∨ s = ".." := by simpa [sgs] using hs
  rcases hs' with rfl | rfl | rfl | rfl
  · rw [hit_no sg1 h1]; exact Bool.false_ne_true
  · rw [hit_no sg2 h2]; exact Bool.false_ne_true
  · rw [hit_no sg3 h3]; exact Bool.false_ne_true
  · rw [hit_no sg4 h4]; exact Bool.false_ne_true
theorem tok_of_none {l : List Nat} (h : sgs.find? (hit l) = none) : tokM l = wordM (mkS (tw low l)) (mkS (tw dig l)) := by
  unfold tokM
  rw [h]
theorem low_facts : ∀ c ∈ tl low, c ≠ 58 ∧ c ≠ 59 ∧ c ≠ 42 ∧ c ≠ 46 ∧ c ≠ 32 ∧ c ∉ tl dig := by decide +kernel
theorem dig_facts : ∀ c ∈ tl dig, c ≠ 58 ∧ c ≠ 59 ∧ c ≠ 42 ∧ c ≠ 46 ∧ c ≠ 32 ∧ c ∉ tl low := by decide +kernel
theorem tok_sign {s : Str} {r : List Nat} (h : s ∈ sgs) : tokM (tl s ++ r) = .inl ("sign", s) := by
  have e : sgs.find? (hit (tl s ++ r)) = some s := by
    have hs' : s = ":" ∨ s = ";" ∨ s = "*" ∨ s = ".." := by simpa [sgs] using h
    rcases hs' with rfl | rfl | rfl | rfl
    · exact List.find?_cons_of_pos hit_yes
    · unfold sgs
      rw [List.find?_cons_of_neg (by rw [show tl (";" : Str) ++ r = 59 :: r by rw [sg2]; rfl, hit_no sg1 (by decide)]; exact Bool.false_ne_true)]
      exact List.find?_cons_of_pos hit_yes
    · unfold sgs
      rw [List.find?_cons_of_neg (by rw [show tl ("*" : Str) ++ r = 42 :: r by rw [sg3]; rfl, hit_no sg1 (by decide)]; exact Bool.false_ne_true),
        List.find?_cons_of_neg (by rw [show tl ("*" : Str) ++ r = 42 :: r by rw [sg3]; rfl, hit_no sg2 (by decide)]; exact Bool.false_ne_true)]
      exact List.find?_cons_of_pos hit_yes
    · unfold sgs
      rw [List.find?_cons_of_neg (by rw [show tl (".." : Str) ++ r = 46 :: 46 :: r by rw [sg4]; rfl, hit_no sg1 (by decide)]; exact Bool.false_ne_true),
        List.find?_cons_of_neg (by rw [show tl (".." : Str) ++ r = 46 :: 46 :: r by rw [sg4]; rfl, hit_no sg2 (by decide)]; exact Bool.false_ne_true),
        List.find?_cons_of_neg (by rw [show tl (".." : Str) ++ r = 46 :: 46 :: r by rw [sg4]; rfl, hit_no sg3 (by decide)]; exact Bool.false_ne_true)]
      exact List.find?_cons_of_pos hit_yes
  unfold tokM
  rw [e]
theorem cons_of_ne {x : Str} (h : x ≠ "") : ∃ c r, tl x = c :: r := by
  cases e : tl x with
  | nil => exact absurd (ext_tl (x := x) (y := "") (by rw [e]; decide +kernel)) h
  | cons c r => exact ⟨c, r, rfl⟩
theorem tok_letters {x : Str} {r : List Nat} (h : ∀ c ∈ tl x, c ∈ tl low) (hx : x ≠ "") (s : Stop low r) : tokM (tl x ++ r) = wordM x "" := by
  obtain ⟨c, q, e⟩ := cons_of_ne hx
  have hc := h c (by rw [e]; exact List.mem_cons_self)
  obtain ⟨h1, h2, h3, h4, _, h5⟩ := low_facts c hc
  have e2 : tl x ++ r = c :: (q ++ r) := by rw [e]; rfl
  rw [tok_of_none (by rw [e2]; exact no_sign h1 h2 h3 h4), tw_word h s, mkS_tl]
  have e3 : tw dig (tl x ++ r) = [] := by rw [e2]; exact tw_not h5
  rw [e3]
  exact congrArg (wordM x) (by decide +kernel)
theorem tok_digits {x : Str} {r : List Nat} (h : ∀ c ∈ tl x, c ∈ tl dig) (hx : x ≠ "") (s : Stop dig r) : tokM (tl x ++ r) = numM x := by
  obtain ⟨c, q, e⟩ := cons_of_ne hx
  have hc := h c (by rw [e]; exact List.mem_cons_self)
  obtain ⟨h1, h2, h3, h4, _, h5⟩ := dig_facts c hc
  have e2 : tl x ++ r = c :: (q ++ r) := by rw [e]; rfl
  rw [tok_of_none (by rw [e2]; exact no_sign h1 h2 h3 h4), tw_word h s, mkS_tl]
  have e3 : tw low (tl x ++ r) = [] := by rw [e2]; exact tw_not h5
  rw [e3]
  have e4 : mkS [] = "" := by decide +kernel
  rw [e4]
  unfold wordM
  rw [if_neg (by decide +kernel), if_pos rfl]
/-! ### the words that come -/
theorem nums_facts : ∀ x ∈ nums, (∀ c ∈ tl x, c ∈ tl dig) ∧ x ≠ "" ∧ x.length ≤ 6 := by decide +kernel
theorem iff_facts : (∀ c ∈ tl ("if" : Str), c ∈ tl low) ∧ ("if" : Str) ≠ "" := by decide +kernel
theorem els_facts : (∀ c ∈ tl ("else" : Str), c ∈ tl low) ∧ ("else" : Str) ≠ "" := by decide +kernel
theorem tok_good {k : Kd} {x : Str} {r : List Nat} (h : Wd k x) (hd : (∀ c ∈ tl x, c ∈ tl dig) → Stop dig r) (hl : (∀ c ∈ tl x, c ∈ tl low) → Stop low r) : tokM (tl x ++ r) = .inl (k.cls, x) := by
  rcases h with ⟨rfl, h⟩ | ⟨h1, h2, rfl⟩
  · obtain ⟨a, b, c⟩ := nums_facts x h
    rw [tok_digits a b (hd a)]
    unfold numM
    rw [if_neg b, if_neg (by omega)]
    rfl
  · cases k with
    | num => exact absurd rfl h1
    | fin => exact absurd rfl h2
    | iff =>
      rw [show Kd.law .iff = ("if" : Str) from rfl, tok_letters iff_facts.1 iff_facts.2 (hl iff_facts.1)]
      decide +kernel
    | els =>
      rw [show Kd.law .els = ("else" : Str) from rfl, tok_letters els_facts.1 els_facts.2 (hl els_facts.1)]
      decide +kernel
    | col => exact tok_sign (by decide +kernel)
    | sem => exact tok_sign (by decide +kernel)
    | sta => exact tok_sign (by decide +kernel)
    | dot => exact tok_sign (by decide +kernel)
/-- the strange ones and what is told of them -/
def bads : List (Str × Str) := [("A", "no token begins here"), ("1234567", "a number has at most 6 digits"), ("elses", "there is no such word")]
theorem bad1 : tl ("A" : Str) = [65] := by decide +kernel
theorem bad2 : (∀ c ∈ tl ("1234567" : Str), c ∈ tl dig) ∧ ("1234567" : Str) ≠ "" := by decide +kernel
theorem bad3 : (∀ c ∈ tl ("elses" : Str), c ∈ tl low) ∧ ("elses" : Str) ≠ "" := by decide +kernel
theorem tok_bad {b m : Str} {r : List Nat} (h : (b, m) ∈ bads) (hd : (∀ c ∈ tl b, c ∈ tl dig) → Stop dig r) (hl : (∀ c ∈ tl b, c ∈ tl low) → Stop low r) : tokM (tl b ++ r) = .inr m := by
  have h' : (b = "A" ∧ m = "no token begins here") ∨ (b = "1234567" ∧ m = "a number has at most 6 digits") ∨ (b = "elses" ∧ m = "there is no such word") := by simpa [bads] using h
  rcases h' with ⟨rfl, rfl⟩ | ⟨rfl, rfl⟩ | ⟨rfl, rfl⟩
  · rw [bad1]
    show tokM (65 :: r) = _
    rw [tok_of_none (no_sign (by decide) (by decide) (by decide) (by decide)), tw_not (by decide +kernel), tw_not (by decide +kernel)]
    decide +kernel
  · rw [tok_digits bad2.1 bad2.2 (hd bad2.1)]
    decide +kernel
  · rw [tok_letters bad3.1 bad3.2 (hl bad3.1)]
    decide +kernel
end K6

set_option Elab.async false
set_option linter.all false
set_option maxRecDepth 100000
set_option maxHeartbeats 4000000
set_option autoImplicit false
namespace K6
open PySem PySem.Spec PyProof.Rows L2
open TL (tl len_tl ext_tl)
/-! ### layouts and what scanning them gives -/
instance decWd (k : Kd) (x : Str) : Decidable (Wd k x) := by
  unfold Wd
  infer_instance
def kindOf (x : Str) : Kd := if x ∈ nums then .num else match kds.find? (fun k => decide (k.law = x)) with
  | some k => k
  | none => .fin
def goods : List Str := ["0", "1", "3", "9", "000005", "if", "else", ":", ";", "*", ".."]
theorem nums_goods : ∀ x ∈ nums, x ∈ goods := by decide +kernel
theorem goods_facts : ∀ x ∈ goods, Wd (kindOf x) x ∧ bads.lookup x = none ∧ x ≠ "" ∧ x.length ≤ 7 ∧ 10 ∉ tl x ∧ (tl x).head? ≠ some 32 := by decide +kernel
theorem bads_facts : ∀ p ∈ bads, bads.lookup p.1 = some p.2 ∧ p.1 ≠ "" ∧ p.1.length ≤ 7 ∧ 10 ∉ tl p.1 ∧ (tl p.1).head? ≠ some 32 := by decide +kernel
theorem wd_goods {k : Kd} {x : Str} (h : Wd k x) : x ∈ goods ∧ kindOf x = k := by
  rcases h with ⟨rfl, h⟩ | ⟨h1, h2, rfl⟩
  · exact ⟨nums_goods _ h, if_pos h⟩
  · cases k with
    | num => exact absurd rfl h1
    | fin => exact absurd rfl h2
    | _ => decide +kernel
abbrev Pc := Nat × Str
def pcs (p : Pc) : List Nat := List.replicate p.1 32 ++ tl p.2
structure Tk where
  k : Kd
  w : Str
  c : Nat
def Tk.ho (t : Tk) : HO := .tup [.str t.k.cls, .str t.w, .int (t.c : Int)]
def scanM : Nat → List Pc → Nat → Sum (List Tk) (Nat × Str)
  | n, [], e => .inl [⟨.fin, "", n + e + 1⟩]
  | n, p :: r, e => match bads.lookup p.2 with
    | some m => .inr (n + p.1 + 1, m)
    | none => match scanM (n + p.1 + p.2.length) r e with
      | .inl ts => .inl (⟨kindOf p.2, p.2, n + p.1 + 1⟩ :: ts)
      | .inr x => .inr x
def ahead (d : List Tk) : Sum (List Tk) (Nat × Str) → Sum (List Tk) (Nat × Str)
  | .inl ts => .inl (d ++ ts)
  | .inr x => .inr x
theorem ahead_nil (r : Sum (List Tk) (Nat × Str)) : ahead [] r = r := by cases r <;> rfl
theorem ahead_ahead (a b : List Tk) (r : Sum (List Tk) (Nat × Str)) : ahead a (ahead b r) = ahead (a ++ b) r := by
  cases r with
  | inl ts => exact congrArg Sum.inl (List.append_assoc a b ts).symm
  | inr x => rfl
theorem scanM_good {n : Nat} {p : Pc} {r : List Pc} {e : Nat} (h : bads.lookup p.2 = none) : scanM n (p :: r) e = ahead [⟨kindOf p.2, p.2, n + p.1 + 1⟩] (scanM (n + p.1 + p.2.length) r e) := by
  rw [scanM, h]
  cases scanM (n + p.1 + p.2.length) r e <;> rfl
theorem scanM_bad {n : Nat} {p : Pc} {r : List Pc} {e : Nat} {m : Str} (h : bads.lookup p.2 = some m) : scanM n (p :: r) e = .inr (n + p.1 + 1, m) := by
  rw [scanM, h]
theorem scanM_gap {n g e : Nat} {x : Str} {r : List Pc} : scanM n ((g + 1, x) :: r) e = scanM (n + 1) ((g, x) :: r) e := by
  have e1 : n + (g + 1) = n + 1 + g := by omega
  rw [scanM, scanM, e1]
theorem scanM_end {n e : Nat} : scanM n [] (e + 1) = scanM (n + 1) [] e := by
  rw [scanM, scanM, show n + (e + 1) + 1 = n + 1 + e + 1 by omega]
/-! ### neighbours stand apart -/
def inC (y : Str) (c : Option Nat) : Bool := match c with
  | some c => decide (c ∈ tl y)
  | none => false
def cls3 : List Str := [dig, low, "."]
def near (a b : Str) : Bool := cls3.any fun y => inC y (tl a).getLast? && inC y (tl b).head?
def Sep : List Pc → Prop
  | [] => True
  | p :: r => (∀ q r', r = q :: r' → q.1 = 0 → near p.2 q.2 = false) ∧ Sep r
theorem stop_of {y : Str} {p : Pc} {r : List Pc} {e : Nat} (hy : y ∈ cls3) (h32 : 32 ∉ tl y) (s : Sep (p :: r)) (hp : ∀ c ∈ tl p.2, c ∈ tl y) (hne : p.2 ≠ "") (hr : ∀ q ∈ r, q.2 ≠ "") :
    Stop y (r.flatMap pcs ++ List.replicate e 32) := by
  intro c r' eq
  cases r with
  | nil =>
    have eq2 : List.replicate e 32 = c :: r' := eq
    have hc : c ∈ List.replicate e 32 := by rw [eq2]; exact List.mem_cons_self
    rw [(List.mem_replicate.mp hc).2]
    exact h32
  | cons q r2 =>
    obtain ⟨g, x⟩ := q
    have eq2 : (List.replicate g 32 ++ tl x) ++ (r2.flatMap pcs) ++ List.replicate e 32 = c :: r' := eq
    cases g with
    | succ g =>
      rw [List.replicate_succ] at eq2
      have : (32 : Nat) = c := (List.cons.inj eq2).1
      rw [← this]
      exact h32
    | zero =>
      obtain ⟨d, w, ex⟩ := cons_of_ne (hr (0, x) List.mem_cons_self)
      have ex' : tl x = d :: w := ex
      rw [ex'] at eq2
      have hd : d = c := (List.cons.inj eq2).1
      rw [← hd]
      intro hin
      have hn := s.1 (0, x) r2 rfl rfl
      obtain ⟨a, w2, ea⟩ := cons_of_ne hne
      have hlast : ∃ b, (tl p.2).getLast? = some b ∧ b ∈ tl y := by
        cases el : (tl p.2).getLast? with
        | none => rw [List.getLast?_eq_none_iff] at el; rw [el] at ea; cases ea
        | some b => exact ⟨b, rfl, hp b (List.mem_of_getLast? el)⟩
      obtain ⟨b, eb, hb⟩ := hlast
      have ht : near p.2 x = true := by
        unfold near
        refine List.any_eq_true.mpr ⟨y, hy, ?_⟩
        rw [eb, ex']
        show (decide (b ∈ tl y) && decide (d ∈ tl y)) = true
        rw [decide_eq_true hb, decide_eq_true hin]
        rfl
      have hn' : near p.2 x = false := hn
      rw [ht] at hn'
      cases hn'
end K6

set_option Elab.async false
set_option linter.all false
set_option maxRecDepth 100000
set_option maxHeartbeats 4000000
set_option autoImplicit false
namespace K6
open PySem PySem.Spec PyProof.Rows L2
open TL (tl len_tl ext_tl)
/-! ### scan -/
def TksAt (H : Hp) (t : Addr) (ts : List Tk) : Prop := ∃ as : List Addr, H t = some (.lst (as.map V.ref)) ∧ Paired (fun (a : Addr) (k : Tk) => H a = some k.ho) as ts
theorem TksAt.same {H H' : Hp} {t : Addr} {ts : List Tk} (h : TksAt H t ts) (e : Same H H') : TksAt H' t ts := by
  obtain ⟨as, h1, h2⟩ := h
  exact ⟨as, e _ _ h1, Paired.mapP h2 fun a k q => e _ _ q⟩
theorem TksAt.but {H H' : Hp} {t p : Addr} {ts : List Tk} (h : TksAt H t ts) (e : But p H H') (hp : ∃ C dx fs, H p = some (.ins C dx fs)) : TksAt H' t ts := by
  obtain ⟨as, h1, h2⟩ := h
  obtain ⟨C, dx, fs, hp⟩ := hp
  exact ⟨as, e _ _ (ne_of h1 hp (fun z => nomatch z)) h1, Paired.mapP h2 fun a k q => e _ _ (ne_of q hp (fun z => nomatch z)) q⟩
theorem TksAt.snoc {H H' : Hp} {t a : Addr} {ts : List Tk} {k : Tk} {as : List Addr} (h1 : H t = some (.lst (as.map V.ref))) (h2 : Paired (fun (a : Addr) (k : Tk) => H a = some k.ho) as ts) (e : Same H H') (ha : H' a = some k.ho) :
    TksAt (upd H' t (.lst (as.map V.ref ++ [.ref a]))) t (ts ++ [k]) := by
  refine ⟨as ++ [a], by rw [upd_same, List.map_append]; rfl, Paired.snoc (Paired.mapP h2 fun b c q => ?_) ?_⟩
  · have q' := e _ _ q
    rw [upd_ne (ne_of q' (e _ _ h1) (fun z => nomatch z))]
    exact q'
  · rw [upd_ne (ne_of ha (e _ _ h1) (fun z => nomatch z))]
    exact ha
def PcOk (p : Pc) : Prop := p.2 ∈ goods ∨ ∃ m, (p.2, m) ∈ bads
theorem PcOk.facts {p : Pc} (h : PcOk p) : p.2 ≠ "" ∧ p.2.length ≤ 7 ∧ 10 ∉ tl p.2 ∧ (tl p.2).head? ≠ some 32 := by
  rcases h with h | ⟨m, h⟩
  · obtain ⟨_, _, a, b, c, d⟩ := goods_facts _ h
    exact ⟨a, b, c, d⟩
  · obtain ⟨_, a, b, c, d⟩ := bads_facts _ h
    exact ⟨a, b, c, d⟩
def spScan (K : PySem.W.Frag) : Sp := fun vs H Q E => ∃ (z : Str) (L : List Pc) (e : Nat), vs = [.str z] ∧ z.length ≤ 400 ∧ tl z = L.flatMap pcs ++ List.replicate e 32 ∧ (∀ p ∈ L, PcOk p) ∧ Sep L ∧ match scanM 0 L e with
  | .inl ts => ∀ t H', Same H H' → TksAt H' t ts → Q (.ref t) H'
  | .inr x => RTE K E H (x.1 : Int) x.2
theorem flat_no {L : List Pc} (h : ∀ p ∈ L, PcOk p) : 10 ∉ L.flatMap pcs := fun hm => by
  obtain ⟨p, hp, hc⟩ := List.mem_flatMap.mp hm
  rcases List.mem_append.mp hc with q | q
  · exact absurd (List.mem_replicate.mp q).2 (by decide)
  · exact (h p hp).facts.2.2.1 q
theorem stop_all {p : Pc} {r : List Pc} {e : Nat} (s : Sep (p :: r)) (h : ∀ q ∈ p :: r, PcOk q) : ((∀ c ∈ tl p.2, c ∈ tl dig) → Stop dig (r.flatMap pcs ++ List.replicate e 32)) ∧ ((∀ c ∈ tl p.2, c ∈ tl low) → Stop low (r.flatMap pcs ++ List.replicate e 32)) :=
  ⟨fun hp => stop_of (by decide +kernel) (by decide +kernel) s hp (h p List.mem_cons_self).facts.1 fun q hq => (h q (List.mem_cons_of_mem _ hq)).facts.1,
    fun hp => stop_of (by decide +kernel) (by decide +kernel) s hp (h p List.mem_cons_self).facts.1 fun q hq => (h q (List.mem_cons_of_mem _ hq)).facts.1⟩
section
variable {P : Program} {w : World} {K : PySem.W.Frag} {mg : Str → Option Value} {base : Heap}
theorem sc_scan : FnScope ["text", "tokens", "at"] ["text"] (defScope s_scan) := ⟨rfl, rfl, rfl, by decide +kernel, rfl, by decide +kernel, by decide +kernel⟩
theorem sp_lit : (Str.ofString " ") = ⟨#[32]⟩ := by decide +kernel
theorem ok_scan (T : Tx K mg) : Df P w K mg base 4 "scan" ["text"] (spScan K) := by
  have DK : Df P w K mg base 1 "check_text" ["text"] spCheck := ok_check T
  have DT : Df P w K mg base 3 "token_at" ["text", "at"] (spTok K) := ok_tok T
  refine df_mk T.g_scan T.d_scan sc_scan (fun vs H Q E h => ?_) (fun _ _ _ _ _ _ us hl => match us, hl with | [_], _ => rfl) (fun cdv A outer s H vs Q E hr h => ?_)
  · obtain ⟨z, L, e, rfl, _⟩ := h
    rfl
  · obtain ⟨z, L, e, rfl, hz, hL, hok, hs, k⟩ := h
    have hr1 : Room 1 _ := hr.mono (by decide)
    refine ⟨_, pss_cons (ps_expr (pe_d DK hr1 takes0 (pa_cons (pv 0) pa_nil)))
      (pss_cons (ps_set (i := 1) sc_scan.nd rfl (Or.inl rfl) (pe_lst pa_nil))
      (pss_cons (ps_set (i := 2) sc_scan.nd rfl (Or.inl rfl) pe_int)
      (pss_cons (ps_while pwE (pt_cmpR op_lt (pv 2) (pe_lenT T (pv 0)) (nomark _))
        (pss_one (ps_if (pt_cmpR op_eq (pe_ix ix_str (pv 0) (pv 2) (fun _ _ => rfl)) pe_str (nomark _))
          (pss_one (ps_set (i := 2) sc_scan.nd rfl (Or.inl rfl) (pe_op op_add (pv 2) pe_int)))
          (pss_cons (ps_expr (pe_bm PySem.F.plainAttrs_list PySem.F.slot_list_append PySem.F.type_list_append mt_append (pv 1) (pa_cons (pe_d DT hr tkE (pa_cons (pv 0) (pa_cons (pv 2) pa_nil))) pa_nil)))
          (pss_one (ps_set (i := 2) sc_scan.nd rfl (Or.inl rfl) (pe_op op_add (pv 2) (pe_lenT T (pe_ix ix_tup (pe_ix ix_list (pv 1) (pe_un un_neg pe_int) (fun _ _ => rfl)) pe_int (fun _ _ => rfl))))))))))
      (pss_cons (ps_expr (pe_bm PySem.F.plainAttrs_list PySem.F.slot_list_append PySem.F.type_list_append mt_append (pv 1) (pa_cons (pe_tup (pa_cons pe_str (pa_cons pe_str (pa_cons (pe_op op_add (pe_lenT T (pv 0)) pe_int) pa_nil)))) pa_nil)))
      (pss_one (ps_ret (pv 1))))))), ?_⟩
    have hsz : z.length ≤ sizeLine := Evl.sz_of (by omega)
    have hln : (tl z).length = z.length := (len_tl z).symm
    have h10 : 10 ∉ tl z := by
      rw [hL]
      intro q
      rcases List.mem_append.mp q with q | q
      · exact flat_no hok q
      · exact absurd (List.mem_replicate.mp q).2 (by decide)
    refine ⟨_, rfl, z, rfl, hz, h10, Evl.sz_of (by show 0 ≤ 100000; decide), fun t ht => ?_⟩
    refine ⟨fun m σ H' => ∃ (n : Nat) (L' : List Pc) (e' : Nat) (ds : List Tk), σ = [some (.str z), some (.ref t), some (.int n)] ∧ Same H H' ∧ TksAt H' t ds ∧ n ≤ z.length ∧ m = z.length - n ∧ (tl z).drop n = L'.flatMap pcs ++ List.replicate e' 32 ∧
        (∀ p ∈ L', PcOk p) ∧ Sep L' ∧ scanM 0 L e = ahead ds (scanM n L' e') ∧ ds.length ≤ n,
      ⟨_, 0, L, e, [], rfl, same_new ht, ⟨[], upd_same, .nil⟩, Nat.zero_le _, rfl, hL, hok, hs, (ahead_nil _).symm, Nat.le_refl _⟩, ?_⟩
    rintro m σ H' ⟨n, L', e', ds, rfl, sm, ⟨as, ha, hp⟩, hn, rfl, hd, hok', hs', hsc, hdl⟩
    have hal : as.length = ds.length := Paired.length hp
    refine ⟨_, rfl, _, rfl, z, rfl, hsz, _, _, rfl, rfl, _, rfl, ?_⟩
    by_cases hlt : (n : Int) < z.length
    · rw [decide_eq_true hlt]
      obtain ⟨c, hc, hd2⟩ := drop_at (l := tl z) (e := n) (by omega)
      rw [hd2] at hd
      refine iteT ⟨_, fun σ' H' q => q, _, rfl, _, rfl, z, _, c, rfl, rfl, hsz, atI_nat hc, rfl, _, rfl, ?_⟩
      have step : (c = 32 ∧ ∃ L2 e2, (tl z).drop (n + 1) = List.flatMap pcs L2 ++ List.replicate e2 32 ∧ (∀ p ∈ L2, PcOk p) ∧ Sep L2 ∧ scanM n L' e' = scanM (n + 1) L2 e2) ∨ ∃ x r, L' = (0, x) :: r ∧ c ≠ 32 := by
        match L', hd, hok', hs' with
        | [], hd, _, _ =>
          have hd' : c :: (tl z).drop (n + 1) = List.replicate e' 32 := hd
          cases e' with
          | zero => cases hd'
          | succ e2 =>
            rw [List.replicate_succ] at hd'
            obtain ⟨h1, h2⟩ := List.cons.inj hd'
            exact .inl ⟨h1, [], e2, h2, (fun p hp => by cases hp), trivial, scanM_end⟩
        | (g + 1, x) :: r, hd, hok', hs' =>
          have hd' : c :: (tl z).drop (n + 1) = (List.replicate (g + 1) 32 ++ tl x) ++ r.flatMap pcs ++ List.replicate e' 32 := hd
          rw [List.replicate_succ] at hd'
          obtain ⟨h1, h2⟩ := List.cons.inj hd'
          exact .inl ⟨h1, (g, x) :: r, e', h2, (fun p hp => by
            rcases List.mem_cons.mp hp with q | q
            · rw [q]
              exact hok' (g + 1, x) List.mem_cons_self
            · exact hok' p (List.mem_cons_of_mem _ q)), ⟨hs'.1, hs'.2⟩, scanM_gap⟩
        | (0, x) :: r, hd, hok', _ =>
          refine .inr ⟨x, r, rfl, fun q => ?_⟩
          have f := (hok' (0, x) List.mem_cons_self).facts
          obtain ⟨d, y, ex⟩ := cons_of_ne f.1
          have ex' : tl x = d :: y := ex
          have hd' : c :: (tl z).drop (n + 1) = tl x ++ r.flatMap pcs ++ List.replicate e' 32 := hd
          rw [ex'] at hd'
          have h1 : c = d := (List.cons.inj hd').1
          have f4 : (tl x).head? ≠ some 32 := f.2.2.2
          rw [ex', ← h1, q] at f4
          exact f4 rfl
      rcases step with ⟨rfl, L2, e2, h1, h2, h3, h4⟩ | ⟨x, r, rfl, hc32⟩
      · rw [decide_eq_true (congrArg V.str sp_lit).symm]
        refine iteT ⟨_, rfl, _, _, rfl, rfl, z.length - (n + 1), by omega, n + 1, L2, e2, ds, rfl, sm, ⟨as, ha, hp⟩, by omega, rfl, h1, h2, h3, by rw [hsc, h4], by omega⟩
      · rw [decide_eq_false (fun q => hc32 (by
          rw [sp_lit] at q
          have q2 : (#[c] : Array Nat) = #[32] := congrArg Str.cps (V.str.inj q)
          simpa using q2))]
        have f := (hok' (0, x) List.mem_cons_self).facts
        have hd' : (tl z).drop n = tl x ++ (r.flatMap pcs ++ List.replicate e' 32) := by
          rw [hd2, hd, ← List.append_assoc]
          rfl
        have hxl : (tl x).length = x.length := (len_tl x).symm
        have hx0 : 0 < x.length := by
          obtain ⟨d, y, ex⟩ := cons_of_ne f.1
          have ex' : tl x = d :: y := ex
          rw [← hxl, ex']
          exact Nat.succ_pos _
        have hx7 : x.length ≤ 7 := f.2.1
        have hxn : n + x.length ≤ z.length := by
          have q := congrArg List.length hd'
          rw [List.length_drop, List.length_append] at q
          omega
        obtain ⟨st1, st2⟩ := stop_all (e := e') hs' hok'
        refine iteF ⟨_, rfl, .inl ⟨rfl, _, SqL.of ha⟩, _, rfl, _, rfl, z, n, rfl, hn, hz, ?_⟩
        rcases hok' (0, x) List.mem_cons_self with hg | ⟨m, hb⟩
        · have hg' : x ∈ goods := hg
          obtain ⟨w1, w2, _⟩ := goods_facts x hg'
          rw [hd', tok_good w1 st1 st2]
          intro p H2 sm2 hp2 hp3
          have ht2 := sm2 _ _ ha
          have hk : H2 p = some (Tk.ho ⟨kindOf x, x, n + 0 + 1⟩) := hp3
          have tks := TksAt.snoc ha hp sm2 hk
          have hpt : p ≠ t := ne_of hk ht2 (fun z => nomatch z)
          refine ⟨t, _, _, rfl, rfl, ht2, Evl.sz_lt (by rw [List.length_map]; omega), ?_⟩
          refine ⟨_, rfl, _, rfl, 1, rfl, t, _, _, _, rfl, rfl, SqL.of upd_same, atI_last _ _, p, _, (1 : Nat), _, rfl, rfl, SqT.of ((upd_ne hpt).trans hp3), atI_nat rfl, x, rfl, Evl.sz_of (by omega), _, _, rfl, rfl, ?_⟩
          refine ⟨z.length - (n + x.length), by omega, n + x.length, r, e', _, rfl, s_mut (sm.trans sm2) ht, tks, hxn, rfl, ?_, fun q hq => hok' q (List.mem_cons_of_mem _ hq), hs'.2, ?_, ?_⟩
          · rw [← List.drop_drop, hd', ← hxl, List.drop_left]
          · rw [hsc, scanM_good (p := (0, x)) w2, ahead_ahead]
            rfl
          · rw [List.length_append]
            show ds.length + 1 ≤ _
            omega
        · have hb' : (x, m) ∈ bads := hb
          rw [hd', tok_bad hb' st1 st2]
          have w2 := (bads_facts _ hb').1
          rw [hsc, scanM_bad (p := (0, x)) w2] at k
          exact RTE.same k sm
    · rw [decide_eq_false hlt]
      have hz2 : n = z.length := by omega
      subst hz2
      rw [List.drop_eq_nil_of_le (by omega)] at hd
      have hnil : L' = [] ∧ e' = 0 := by
        match L', hd, hok' with
        | [], hd, _ =>
          refine ⟨rfl, ?_⟩
          cases e' with
          | zero => rfl
          | succ e2 => cases hd
        | p :: r, hd, hok' =>
          have f := (hok' p List.mem_cons_self).facts
          obtain ⟨d, y, ex⟩ := cons_of_ne f.1
          have q := congrArg List.length hd
          have q2 : (List.flatMap pcs (p :: r) ++ List.replicate e' 32).length = ((List.replicate p.1 32 ++ tl p.2) ++ r.flatMap pcs ++ List.replicate e' 32).length := rfl
          rw [q2, ex] at q
          simp at q
      obtain ⟨rfl, rfl⟩ := hnil
      rw [hsc] at k
      have k' : ∀ t H', Same H H' → TksAt H' t (ds ++ [⟨.fin, "", z.length + 0 + 1⟩]) → Q (.ref t) H' := k
      refine iteF ⟨_, rfl, .inl ⟨rfl, _, SqL.of ha⟩, _, rfl, z, rfl, hsz, _, _, rfl, rfl, Evl.sz_of (by show 3 ≤ 100000; decide), fun p hp2 => ?_⟩
      refine ⟨t, _, _, rfl, rfl, (same_new hp2) _ _ ha, Evl.sz_lt (by rw [List.length_map]; omega), ?_⟩
      exact ⟨_, rfl, k' t _ (s_mut (sm.trans (same_new hp2)) ht) (TksAt.snoc ha hp (same_new hp2) upd_same)⟩
end
end K6

set_option Elab.async false
set_option linter.all false
set_option maxRecDepth 100000
set_option maxHeartbeats 4000000
set_option autoImplicit false
namespace K6
open PySem PySem.Spec PyProof.Rows L2
open TL (tl len_tl ext_tl)
/-! ### shown, in_order, joined -/
theorem len_app (x y : Str) : (x ++ y).length = x.length + y.length := by
  rw [len_tl, len_tl, len_tl, tl_app, List.length_append]
theorem join_len (a : Str) : ∀ ys : List Str, (Str.join a ys).length ≤ (ys.map (·.length)).sum + ys.length * a.length
  | [] => Nat.zero_le _
  | [x] => by
    show x.length ≤ ([x].map (·.length)).sum + 1 * a.length
    simp
  | x :: y :: r => by
    have ih := join_len a (y :: r)
    show (x ++ a ++ Str.join a (y :: r)).length ≤ ((x :: y :: r).map (·.length)).sum + (r.length + 1 + 1) * a.length
    rw [len_app, len_app, List.map_cons, List.sum_cons, Nat.succ_mul]
    have e : (y :: r).length * a.length = (r.length + 1) * a.length := rfl
    omega
theorem joinT_len (a : Str) (ys : List Str) : (Txt.join a ys).length ≤ (ys.map (·.length)).sum + ys.length * a.length := by
  rw [TL.join_eq]
  exact join_len a ys
theorem sum_le {m : Nat} : ∀ ys : List Str, (∀ y ∈ ys, y.length ≤ m) → (ys.map (·.length)).sum ≤ ys.length * m
  | [], _ => Nat.zero_le _
  | y :: r, h => by
    have ih := sum_le r fun z hz => h z (List.mem_cons_of_mem _ hz)
    have h1 := h y List.mem_cons_self
    rw [List.map_cons, List.sum_cons, List.length_cons, Nat.succ_mul]
    omega
/-- what can come, in its order -/
def allShown : List Str := kds.map Kd.shown
def ordered (os : List Str) : List Str := allShown.filter fun x => decide (x ∈ os)
/-- .. in words -/
def joinW (os : List Str) : Str := if os.length = 1 then os.headD "" else Txt.join ", " os.dropLast ++ " or " ++ os.getLastD ""
def TkOk (t : Tk) : Prop := Wd t.k t.w ∨ (t.k = .fin ∧ t.w = "")
def spShown (K : PySem.W.Frag) : Sp := fun vs H Q _ => ∃ (a : Addr) (t : Tk), vs = [.ref a] ∧ H a = some t.ho ∧ TkOk t ∧ ∀ H', Same H H' → Q (.str t.k.shown) H'
def spOrder (K : PySem.W.Frag) : Sp := fun vs H Q _ => ∃ (o : Addr) (os : List Str), vs = [.ref o] ∧ SqT K H o (os.map V.str) ∧ ∀ q H', Same H H' → H q = none → H' q = some (.lst ((ordered os).map V.str)) → Q (.ref q) H'
def spJoined : Sp := fun vs H Q _ => ∃ (q : Addr) (os : List Str), vs = [.ref q] ∧ H q = some (.lst (os.map V.str)) ∧ os ≠ [] ∧ os.length ≤ 20 ∧ (∀ x ∈ os, x.length ≤ 20) ∧ ∀ H', Same H H' → Q (.str (joinW os)) H'
theorem signs_shown : ∀ k ∈ kds, k.cls = "sign" → "\"" ++ k.law ++ "\"" = k.shown := by decide +kernel
theorem cls_sign : ∀ k ∈ kds, k.cls ≠ "sign" → (k.cls = "word" ∧ k.shown = k.law) ∨ (k.cls = "number" ∧ k.shown = "a number") ∨ (k.cls = "end" ∧ k.shown = "the end") := by decide +kernel
theorem all_kds (k : Kd) : k ∈ kds := by cases k <;> decide
section
variable {X : Cx} {o e : Expr} {to te : TE} {apos cpos : Pos}
theorem pe_app (ho : PE X o to) (he : PE X e te) (hbase : attributeBase o "append" X.env (eval o X.env) = eval o X.env := by rfl)
    (hfew : ((backTo cpos (starEach (e :: []) X.env)).all (fun x => !x.1) && (backToKw cpos (keywordEach [] X.env)).all (fun x => x.1.isSome)
      && decide ((e :: []).length + ([] : List Keyword).length + (if ([] : List Keyword).isEmpty then 0 else 1) < 30)) = true := by rfl)
    (hline : (apos.endLine == cpos.line) = true := by rfl) (hs : starEach (e :: []) X.env = (false, eval e X.env) :: starEach [] X.env := by rfl) (hplain : (backTo cpos (starEach [] X.env)).any (·.1) = false := by rfl) :
    PE X (.Call (.Attribute o "append" apos) [e] [] cpos) (tBM X.K "list" rAppend to (tCons te tNil)) :=
  pe_bm PySem.F.plainAttrs_list PySem.F.slot_list_append PySem.F.type_list_append mt_append ho (pa_cons he pa_nil hs) hbase hfew hline hs hplain
end
section
variable {P : Program} {w : World} {K : PySem.W.Frag} {mg : Str → Option Value} {base : Heap}
theorem sc_shown : FnScope ["token"] ["token"] (defScope s_shown) := ⟨rfl, rfl, rfl, by decide +kernel, rfl, by decide +kernel, by decide +kernel⟩
theorem ok_shown (T : Tx K mg) : Df P w K mg base 1 "shown" ["token"] (spShown K) := by
  refine df_mk T.g_shown T.d_shown sc_shown (fun vs H Q E h => ?_) (fun _ _ _ _ _ _ us hl => match us, hl with | [_], _ => rfl) (fun cdv A outer s H vs Q E hr h => ?_)
  · obtain ⟨a, t, rfl, _⟩ := h
    rfl
  · obtain ⟨a, ⟨kd, x, c⟩, rfl, ha, hok, k⟩ := h
    have hu := hu_of hr
    have ha' : H a = some (.tup [.str kd.cls, .str x, .int (c : Int)]) := ha
    refine ⟨_, pss_cons (ps_if (pt_cmpR op_eq (pe_ix ix_tup (pv 0) pe_int (fun _ _ => rfl)) pe_str (nomark _)) (pss_one (ps_ret (pe_op op_add_str (pe_op op_add_str pe_str (pe_ix ix_tup (pv 0) pe_int (fun _ _ => rfl))) pe_str))) pss_nil)
      (pss_one (ps_ret (pe_dget hu (pe_disp (pps_cons pe_str (pe_ix ix_tup (pv 0) pe_int (fun _ _ => rfl)) (pps_cons pe_str pe_str (pps_cons pe_str pe_str pps_nil))) (by rfl) (by rfl) (fun z => by cases z) (by decide)) (pe_ix ix_tup (pv 0) pe_int (fun _ _ => rfl)) (fun _ _ => rfl)))), ?_⟩
    refine ⟨_, rfl, a, _, (0 : Nat), _, rfl, rfl, SqT.of ha', atI_nat rfl, rfl, _, rfl, ?_⟩
    by_cases hs : kd.cls = "sign"
    · rw [decide_eq_true (congrArg V.str hs)]
      have hx : x = kd.law ∧ x.length ≤ 7 := by
        rcases hok with h | ⟨h1, h2⟩
        · have hg := (wd_goods h).1
          rcases h with ⟨h1, _⟩ | ⟨_, _, h3⟩
          · have h1' : kd = .num := h1
            rw [h1'] at hs
            exact absurd hs (by decide +kernel)
          · exact ⟨h3, (goods_facts _ hg).2.2.2.1⟩
        · have h1' : kd = .fin := h1
          rw [h1'] at hs
          exact absurd hs (by decide +kernel)
      have hq : ("\"" : Str).length = 1 := by decide +kernel
      have e := signs_shown kd (all_kds kd) hs
      refine iteT ⟨_, rfl, a, _, (1 : Nat), _, rfl, rfl, SqT.of ha', atI_nat rfl, _, _, rfl, rfl, Evl.sz_of (by omega), _, _, rfl, rfl, Evl.sz_of (by rw [len_app]; omega), ?_⟩
      rw [hx.1, e]
      exact k H (Same.refl H)
    · rw [decide_eq_false (fun q => hs (V.str.inj q))]
      refine iteF fun p hp => ?_
      have sm := same_new (o := .dK []) hp
      refine ⟨_, rfl, a, _, (1 : Nat), _, rfl, rfl, SqT.of (sm _ _ ha'), atI_nat rfl, ?_⟩
      refine ⟨upd_same, [(Sum.inr "word", .str x), (Sum.inr "number", .str "a number"), (Sum.inr "end", .str "the end")], rfl, by show 3 ≤ 15; decide, ?_⟩
      rw [upd_upd]
      have sm2 : Same H (upd H p (.dK (mergeK [] [(Sum.inr "word", V.str x), (Sum.inr "number", .str "a number"), (Sum.inr "end", .str "the end")]))) := same_new hp
      refine ⟨_, rfl, a, _, (0 : Nat), _, rfl, rfl, SqT.of (sm2 _ _ ha'), atI_nat rfl, p, .str kd.shown, rfl, ?_, k _ sm2⟩
      have dg := DGet.k (k := Sum.inr kd.cls) (upd_same (H := H) (a := p) (o := .dK (mergeK [] [(Sum.inr "word", V.str x), (Sum.inr "number", .str "a number"), (Sum.inr "end", .str "the end")])))
      have ev : valV (mergeK [] [(Sum.inr ("word" : Str), V.str x), (Sum.inr "number", .str "a number"), (Sum.inr "end", .str "the end")]) (Sum.inr kd.cls) = some (.str kd.shown) := by
        rcases cls_sign kd (all_kds kd) hs with ⟨e1, e2⟩ | ⟨e1, e2⟩ | ⟨e1, e2⟩
        · rw [e1, e2]
          have hx : x = kd.law := by
            rcases hok with h | ⟨h1, h2⟩
            · rcases h with ⟨h1, _⟩ | ⟨_, _, h3⟩
              · have h1' : kd = .num := h1
                rw [h1'] at e1
                exact absurd e1 (by decide +kernel)
              · exact h3
            · have h1' : kd = .fin := h1
              rw [h1'] at e1
              exact absurd e1 (by decide +kernel)
          rw [hx]
          kernel_rfl
        · rw [e1, e2]
          kernel_rfl
        · rw [e1, e2]
          kernel_rfl
      rw [ev] at dg
      exact dg
abbrev nOrder : List Str := ["options", "order", "sign", "option"]
theorem sc_order : FnScope nOrder ["options"] (defScope s_in_order) := ⟨rfl, rfl, rfl, by decide +kernel, rfl, by decide +kernel, by decide +kernel⟩
theorem ok_order (T : Tx K mg) : Df P w K mg base 1 "in_order" ["options"] (spOrder K) := by
  refine df_mk T.g_in_order T.d_in_order sc_order (fun vs H Q E h => ?_) (fun _ _ _ _ _ _ us hl => match us, hl with | [_], _ => rfl) (fun cdv A outer s H vs Q E hr h => ?_)
  · obtain ⟨o, os, rfl, _⟩ := h
    rfl
  · obtain ⟨o, os, rfl, ho, k⟩ := h
    refine ⟨_, pss_cons (ps_set (i := 1) sc_order.nd rfl (Or.inl rfl) (pe_op op_cat (pe_op op_cat (pe_lst (pa_cons pe_str (pa_cons pe_str (pa_cons pe_str pa_nil))))
          (pe_lc (own := [("sign", 2)]) (g := gName 2) (tt := tYes) rfl sc_order.nd (pi_tup (pe_gr T.g_SIGNS)) (blkOk_by (N := nOrder) (sc := defScope s_in_order) (by decide +kernel)) (fun _ _ _ _ _ => pg_name (i := 2) sc_order.nd rfl (Or.inl rfl)) (fun _ _ _ _ _ => pts_nil)
            (fun _ _ _ _ _ => pe_op op_add_str (pe_op op_add_str pe_str (pv 2)) pe_str))) (pe_lst (pa_cons pe_str pa_nil))))
      (pss_one (ps_ret (pe_lc (own := [("option", 3)]) (g := gName 3) (tt := tTest (tOp (rIn K false) (tVar 3) (tVar 0))) rfl sc_order.nd (pi_list (pv 1)) (blkOk_by (N := nOrder) (sc := defScope s_in_order) (by decide +kernel)) (fun _ _ _ _ _ => pg_name (i := 3) sc_order.nd rfl (Or.inl rfl)) (fun _ _ _ _ _ => pts_one (pt_cmpR op_in_seq (pv 3) (pv 0) rfl))
        (fun _ _ _ _ _ => pv 3)))), ?_⟩
    let sgV : List V := [.str ":", .str ";", .str "*", .str ".."]
    let qt : List Str := ["\":\"", "\";\"", "\"*\"", "\"..\""]
    refine ⟨by show 3 ≤ sizeLine; decide, fun p1 h1 => ⟨_, rfl, ⟨_, T.t_SIGNS _⟩, fun D hD => ?_⟩⟩
    have s1 : Same H (upd H p1 (.lst [V.str "a number", .str "if", .str "else"])) := same_new h1
    have e1 : (upd H p1 (.lst [V.str "a number", .str "if", .str "else"])) p1 = some (.lst [V.str "a number", .str "if", .str "else"]) := upd_same
    generalize upd H p1 (.lst [V.str "a number", .str "if", .str "else"]) = H1 at s1 e1 hD ⊢
    refine lc_tup (K := K) (a := He.ga K "SIGNS") (xs := sgV) (fun i H' => Same H1 H' ∧ H' D = some (.lst ((qt.take i).map V.str))) ⟨same_new hD, upd_same⟩ (fun i H' _ _ => T.t_SIGNS H') ?_ ?_
    · rintro i x H' hi ⟨sm, hl⟩
      refine ⟨rfl, ?_⟩
      obtain ⟨s, q, rfl, hq, hs, hlen⟩ : ∃ s q : Str, x = .str s ∧ qt.take (i + 1) = qt.take i ++ [q] ∧ "\"" ++ s ++ "\"" = q ∧ s.length ≤ 2 := by
        match i, hi with
        | 0, e => cases e; exact ⟨_, _, rfl, rfl, by decide +kernel, by decide +kernel⟩
        | 1, e => cases e; exact ⟨_, _, rfl, rfl, by decide +kernel, by decide +kernel⟩
        | 2, e => cases e; exact ⟨_, _, rfl, rfl, by decide +kernel, by decide +kernel⟩
        | 3, e => cases e; exact ⟨_, _, rfl, rfl, by decide +kernel, by decide +kernel⟩
        | n + 4, e => simp [sgV] at e
      have hq1 : ("\"" : Str).length = 1 := by decide +kernel
      refine ⟨_, rfl, _, _, rfl, rfl, Evl.sz_of (by omega), _, _, rfl, rfl, Evl.sz_of (by rw [len_app]; omega), _, hl, ?_, s_mut sm hD, ?_⟩
      · refine Evl.sz_lt ?_
        have hq4 : qt.length = 4 := rfl
        rw [List.length_map, List.length_take]
        omega
      · rw [upd_same, hs, hq, List.map_append]
        rfl
    · rintro H' ⟨sm, hl⟩
      refine ⟨p1, D, _, _, rfl, rfl, sm _ _ e1, hl, by show 7 ≤ sizeLine; decide, fun p3 h3 => ?_⟩
      have s3 : Same H (upd H' p3 (.lst ([V.str "a number", .str "if", .str "else"] ++ (qt.take sgV.length).map V.str))) := (s1.trans sm).trans (same_new h3)
      have e3 : (upd H' p3 (.lst ([V.str "a number", .str "if", .str "else"] ++ (qt.take sgV.length).map V.str))) p3 = some (.lst ([V.str "a number", .str "if", .str "else"] ++ (qt.take sgV.length).map V.str)) := upd_same
      generalize upd H' p3 (.lst ([V.str "a number", .str "if", .str "else"] ++ (qt.take sgV.length).map V.str)) = H3 at s3 e3 ⊢
      refine ⟨by show 1 ≤ sizeLine; decide, fun p4 h4 => ?_⟩
      refine ⟨p3, p4, _, _, rfl, rfl, (same_new h4) _ _ e3, upd_same, by show 8 ≤ sizeLine; decide, fun p5 h5 => ?_⟩
      have s5 : Same H (upd (upd H3 p4 (.lst [.str "the end"])) p5 (.lst (allShown.map V.str))) := (s3.trans (same_new h4)).trans (same_new h5)
      have e5 : (upd (upd H3 p4 (.lst [.str "the end"])) p5 (.lst (allShown.map V.str))) p5 = some (.lst (allShown.map V.str)) := upd_same
      have ea : [V.str "a number", .str "if", .str "else"] ++ (qt.take sgV.length).map V.str ++ [.str "the end"] = allShown.map V.str := rfl
      rw [ea]
      generalize upd (upd H3 p4 (.lst [.str "the end"])) p5 (.lst (allShown.map V.str)) = H5 at s5 e5 ⊢
      refine ⟨_, rfl, p5, rfl, ⟨_, SqL.of e5⟩, fun D2 hD2 => ?_⟩
      refine lc_list (K := K) (a := p5) (xs := allShown.map V.str) (fun i H' => Same H5 H' ∧ H' D2 = some (.lst (((allShown.take i).filter fun x => decide (x ∈ os)).map V.str))) ⟨same_new hD2, upd_same⟩ (fun i H' _ h => SqL.of (h.1 _ _ e5)) ?_ ?_
      · rintro i x H' hi ⟨sm2, hl2⟩
        refine ⟨rfl, ?_⟩
        rw [List.getElem?_map] at hi
        obtain ⟨y, hy, rfl⟩ := Option.map_eq_some_iff.mp hi
        have ht : allShown.take (i + 1) = allShown.take i ++ [y] := by rw [List.take_add_one, hy]; rfl
        refine ⟨_, rfl, _, rfl, o, _, rfl, .inr (s_sqT (s5.trans sm2) ho), rfl, by simp [flatV], _, rfl, ?_⟩
        rw [if_neg Bool.false_ne_true, inV_strs]
        by_cases hm : y ∈ os
        · rw [decide_eq_true hm]
          refine iteT ⟨_, rfl, _, hl2, ?_, s_mut sm2 hD2, ?_⟩
          · refine Evl.sz_lt ?_
            rw [List.length_map]
            exact Nat.lt_of_le_of_lt (List.length_filter_le _ _) (by rw [List.length_take]; exact Nat.lt_of_le_of_lt (Nat.min_le_right _ _) (by decide +kernel))
          · rw [upd_same, ht, List.filter_append, List.map_append, List.filter_cons_of_pos (by simpa using hm)]
            rfl
        · rw [decide_eq_false hm]
          refine iteF ⟨sm2, ?_⟩
          rw [hl2, ht, List.filter_append, List.filter_cons_of_neg (by simpa using hm), List.filter_nil, List.append_nil]
      · rintro H' ⟨sm2, hl2⟩
        refine k D2 H' (s5.trans sm2) (s5.free hD2) ?_
        rw [hl2, List.length_map, List.take_length]
        rfl
theorem sc_joined : FnScope ["options"] ["options"] (defScope s_joined) := ⟨rfl, rfl, rfl, by decide +kernel, rfl, by decide +kernel, by decide +kernel⟩
theorem ok_joined (T : Tx K mg) : Df P w K mg base 1 "joined" ["options"] spJoined := by
  refine df_mk T.g_joined T.d_joined sc_joined (fun vs H Q E h => ?_) (fun _ _ _ _ _ _ us hl => match us, hl with | [_], _ => rfl) (fun cdv A outer s H vs Q E hr h => ?_)
  · obtain ⟨q, os, rfl, _⟩ := h
    rfl
  · obtain ⟨q, os, rfl, hq, hne, hl, hx, k⟩ := h
    refine ⟨_, pss_cons (ps_if (pt_cmpR op_eq (pe_lenQ T (pv 0)) pe_int (nomark _)) (pss_one (ps_ret (pe_ix ix_list (pv 0) pe_int (fun _ _ => rfl)))) pss_nil)
      (pss_one (ps_ret (pe_op op_add_str (pe_op op_add_str (pe_join pe_str (pe_slice sl_list (pv 0) po_none (po_some (pe_un un_neg pe_int)))) pe_str) (pe_ix ix_list (pv 0) (pe_un un_neg pe_int) (fun _ _ => rfl))))), ?_⟩
    refine ⟨_, rfl, q, _, rfl, .inl (SqL.of hq), rfl, _, rfl, ?_⟩
    by_cases h1 : os.length = 1
    · have e1 : decide (V.int ((os.map V.str).length : Int) = V.int 1) = true := decide_eq_true (by rw [List.length_map, h1]; rfl)
      rw [e1]
      have hj : joinW os = os.headD "" := if_pos h1
      have k' := k H (Same.refl H)
      rw [hj] at k'
      match os, h1, hq, k' with
      | [x], _, hq, k' => exact iteT ⟨_, rfl, q, _, (0 : Nat), _, rfl, rfl, SqL.of hq, atI_nat rfl, k'⟩
    · have e1 : decide (V.int ((os.map V.str).length : Int) = V.int 1) = false := decide_eq_false (fun z => h1 (by
        have z2 := V.int.inj z
        rw [List.length_map] at z2
        omega))
      rw [e1]
      obtain ⟨y, l, el⟩ : ∃ y l, os = l ++ [y] := ⟨os.getLast hne, os.dropLast, (List.dropLast_concat_getLast hne).symm⟩
      have hcut : cutV (os.map V.str) none (some (-(1 : Int))) = l.map V.str := by
        unfold cutV
        have e2 : HT.sIx (os.map V.str).length 0 none = 0 := rfl
        have e3 : HT.sIx (os.map V.str).length (os.map V.str).length (some (-(1 : Int))) = (os.map V.str).length - 1 := by
          show (if (-(1 : Int)) < 0 then (-(1 : Int) + ((os.map V.str).length : Int)).toNat else min (-(1 : Int)).toNat (os.map V.str).length) = _
          rw [if_pos (by decide)]
          omega
        rw [e2, e3, List.drop_zero, el, List.map_append, List.length_append]
        show List.take ((l.map V.str).length + 1 - 1 - 0) _ = _
        rw [show (l.map V.str).length + 1 - 1 - 0 = (l.map V.str).length by omega, List.take_left]
      have hll : l.length ≤ 20 := by
        rw [el, List.length_append] at hl
        omega
      have hlx : ∀ x ∈ l, x.length ≤ 20 := fun x hm => hx x (by rw [el]; exact List.mem_append_left _ hm)
      have hyx : y.length ≤ 20 := hx y (by rw [el]; simp)
      have hsm := sum_le l hlx
      have hc2 : (", " : Str).length = 2 := by decide +kernel
      have ho4 : (" or " : Str).length = 4 := by decide +kernel
      have hmul : l.length * 20 ≤ 20 * 20 := Nat.mul_le_mul_right 20 hll
      have hm2 : l.length * (", " : Str).length ≤ 20 * 2 := by
        rw [hc2]
        exact Nat.mul_le_mul_right 2 hll
      have hjl := joinT_len ", " l
      have hj : joinW os = Txt.join ", " l ++ " or " ++ y := by
        unfold joinW
        rw [if_neg h1, el, List.dropLast_concat]
        simp
      refine iteF ⟨⟨_, rfl⟩, _, rfl, 1, rfl, _, rfl, q, _, rfl, SqL.of hq, fun p hp => ?_⟩
      have sm := same_new (o := .lst (cutV (os.map V.str) none (some (-(1 : Int))))) hp
      rw [hcut] at sm ⊢
      refine ⟨_, p, l, rfl, rfl, .inl (SqL.of upd_same), by omega, _, _, rfl, rfl, Evl.sz_of (by omega), ?_⟩
      refine ⟨_, rfl, 1, rfl, q, _, _, .str y, rfl, rfl, SqL.of (sm _ _ hq), ?_, _, _, rfl, rfl, Evl.sz_of (by rw [len_app]; omega), ?_⟩
      · rw [el, List.map_append]
        exact atI_last _ _
      · rw [← hj]
        exact k _ sm
end
end K6

set_option Elab.async false
set_option linter.all false
set_option maxRecDepth 100000
set_option maxHeartbeats 4000000
set_option autoImplicit false
namespace K6
open PySem PySem.Spec PyProof.Rows L2
open TL (tl len_tl ext_tl)
/-! ### the grammars as a table, and a walk through it -/
inductive Sta where
  | start | widths | rules | action | rest | done | field | low | high | behind | row | z
  deriving DecidableEq
def step : Sta → Kd → Option Sta
  | .start, .num => some .widths
  | .widths, .num => some .widths
  | .widths, .col => some .rules
  | .rules, .num => some .action
  | .rules, .els => some .rest
  | .action, .iff => some .field
  | .rest, .num => some .done
  | .done, .fin => some .z
  | .field, .num => some .low
  | .field, .sta => some .behind
  | .low, .num => some .low
  | .low, .sta => some .behind
  | .low, .dot => some .high
  | .low, .sem => some .rules
  | .high, .num => some .behind
  | .behind, .num => some .low
  | .behind, .sta => some .behind
  | .behind, .sem => some .rules
  | .row, .num => some .row
  | .row, .fin => some .z
  | _, _ => none
def due (s : Sta) : List Kd := kds.filter fun k => (step s k).isSome
def dueW (s : Sta) : List Str := (due s).map Kd.shown
def expd (os : List Str) : Str := "expected " ++ joinW os
inductive Res where
  | ah (os : List Str)
  | er (c : Nat) (x : Str)
  | ok
def run (b : Bool) : Sta → List Tk → Res
  | _, [] => .ok
  | s, t :: r => if t.k = .fin ∧ b = true then .ah (dueW s) else match step s t.k with
    | none => .er t.c (expd (dueW s))
    | some s' => if t.k = .fin then .ok else run b s' r
/-- the wish about what is raised -/
def Wish (K : PySem.W.Frag) (E : XK) (p : Addr) (H : Hp) : Res → Prop
  | .ah os => ∀ H1, But p H H1 → RAH K E H1 os
  | .er c x => ∀ H1, But p H H1 → RTE K E H1 (c : Int) x
  | .ok => True
theorem Wish.at {K : PySem.W.Frag} {E : XK} {p : Addr} {H H1 : Hp} {r : Res} (h : Wish K E p H r) (e : But p H H1) : Wish K E p H1 r := by
  cases r with
  | ah os => exact fun H2 e2 => h H2 (e.trans e2)
  | er c x => exact fun H2 e2 => h H2 (e.trans e2)
  | ok => trivial
def Fit (s : Sta) (os : List Str) : Prop := ordered os = dueW s ∧ ∀ k ∈ kds, decide (k.shown ∈ os) = (step s k).isSome
instance decFit (s : Sta) (os : List Str) : Decidable (Fit s os) := by
  unfold Fit
  infer_instance
/-! ### the Parser -/
def ParAt (C : Addr) (H : Hp) (p t : Addr) (b : Bool) (n : Nat) : Prop := ∃ dx, H p = some (.ins C dx [("tokens", .ref t), ("stops", .bl b), ("at", .int (n : Int))])
theorem ParAt.same {C : Addr} {H H' : Hp} {p t : Addr} {b : Bool} {n : Nat} (h : ParAt C H p t b n) (e : Same H H') : ParAt C H' p t b n := by
  obtain ⟨dx, h⟩ := h
  exact ⟨dx, e _ _ h⟩
def spPar (C : Addr) : Sp := fun vs H Q _ => ∃ (p dx t : Addr) (b : Bool), vs = [.ref p, .ref t, .bl b] ∧ H p = some (.ins C dx []) ∧ ∀ H', But p H H' → ParAt C H' p t b 0 → Q .non H'
/-- what look and take come to -/
def Looks6 (K : PySem.W.Frag) (E : XK) (H : Hp) (b : Bool) (t : Tk) (os : List Str) (G : Prop) : Prop :=
  (t.k = .fin → b = true → RAH K E H (ordered os)) ∧ (¬ (t.k = .fin ∧ b = true) → t.k.shown ∉ os → RTE K E H (t.c : Int) (expd (ordered os))) ∧ (¬ (t.k = .fin ∧ b = true) → t.k.shown ∈ os → G)
def spLook (K : PySem.W.Frag) (C : Addr) : Sp := fun vs H Q E => ∃ (p o t : Addr) (b : Bool) (n : Nat) (ts : List Tk) (k : Tk) (os : List Str), vs = [.ref p, .ref o] ∧ ParAt C H p t b n ∧ TksAt H t ts ∧ ts[n]? = some k ∧ TkOk k ∧
  SqT K H o (os.map V.str) ∧ ordered os ≠ [] ∧ Looks6 K E H b k os (∀ a H', Same H H' → H' a = some k.ho → Q (.ref a) H')
def spTake (K : PySem.W.Frag) (C : Addr) : Sp := fun vs H Q E => ∃ (p o t : Addr) (b : Bool) (n : Nat) (ts : List Tk) (k : Tk) (os : List Str), vs = [.ref p, .ref o] ∧ ParAt C H p t b n ∧ TksAt H t ts ∧ ts[n]? = some k ∧ TkOk k ∧
  SqT K H o (os.map V.str) ∧ ordered os ≠ [] ∧ Looks6 K E H b k os (∀ a H', But p H H' → ParAt C H' p t b (n + 1) → H' a = some k.ho → Q (.ref a) H')
theorem pair_at {H : Hp} {k : Tk} : ∀ {as : List Addr} {ts : List Tk} {n : Nat}, Paired (fun (a : Addr) (k : Tk) => H a = some k.ho) as ts → ts[n]? = some k → ∃ a, as[n]? = some a ∧ H a = some k.ho
  | _, _, n, .nil, e => by simp at e
  | _, _, 0, .cons h1 _, e => by
    cases e
    exact ⟨_, rfl, h1⟩
  | _, _, n + 1, .cons _ h2, e => pair_at (n := n) h2 (by simpa using e)
theorem cls_end : ∀ k ∈ kds, decide (k.cls = "end") = decide (k = .fin) := by decide +kernel
theorem shown_len : ∀ x ∈ allShown, x.length ≤ 20 := by decide +kernel
theorem ordered_len (os : List Str) : (ordered os).length ≤ 20 ∧ ∀ x ∈ ordered os, x.length ≤ 20 :=
  ⟨Nat.le_trans (List.length_filter_le _ _) (by decide +kernel), fun x hx => shown_len x ((List.mem_filter.mp hx).1)⟩
theorem joinW_len {os : List Str} (h : os.length ≤ 20) (hx : ∀ x ∈ os, x.length ≤ 20) : (joinW os).length ≤ 1000 := by
  unfold joinW
  by_cases h1 : os.length = 1
  · rw [if_pos h1]
    match os, h1, hx with
    | [x], _, hx =>
      have := hx x (by simp)
      show x.length ≤ 1000
      omega
  · rw [if_neg h1, len_app, len_app]
    have a := joinT_len ", " os.dropLast
    have b := sum_le os.dropLast fun x hm => hx x (List.dropLast_subset _ hm)
    have c : os.dropLast.length ≤ 20 := by
      rw [List.length_dropLast]
      omega
    have d : os.dropLast.length * 20 ≤ 20 * 20 := Nat.mul_le_mul_right 20 c
    have e : (", " : Str).length = 2 := by decide +kernel
    have e4 : (" or " : Str).length = 4 := by decide +kernel
    have f : os.dropLast.length * (", " : Str).length ≤ 20 * 2 := by
      rw [e]
      exact Nat.mul_le_mul_right 2 c
    have g : (os.getLastD "").length ≤ 20 := by
      cases hl : os with
      | nil => decide +kernel
      | cons y r =>
        rw [List.getLastD_eq_getLast?, List.getLast?_eq_getLast (by simp)]
        refine hx _ ?_
        rw [hl]
        exact List.getLast_mem _
    omega
section
variable {P : Program} {w : World} {K : PySem.W.Frag} {mg : Str → Option Value} {base : Heap}
theorem sc_par : FnScope ["self", "tokens", "stops"] ["self", "tokens", "stops"] (defScope s_Parser_init) := ⟨rfl, rfl, rfl, by decide +kernel, rfl, by decide +kernel, by decide +kernel⟩
theorem ok_par (T : Tx K mg) : ∃ fd, FnOk P w K mg base (L2.CX P w) 1 (He.ma K (He.ga K "Parser") "__init__") fd ["self", "tokens", "stops"] (spPar (He.ga K "Parser")) ∧ Binds K fd ["self", "tokens", "stops"] [] := by
  obtain ⟨fd, F⟩ := T.d_Parser_init
  refine ⟨fd, F.ok sc_par (fun vs H Q E h => ?_) (fun cdv A outer s H vs Q E hr h => ?_), F.bindsN fun _ _ _ _ _ _ us hl => match us, hl with | [_, _, _], _ => rfl⟩
  · obtain ⟨p, dx, t, b, rfl, _⟩ := h
    rfl
  · obtain ⟨p, dx, t, b, rfl, hp, k⟩ := h
    refine ⟨_, pss_cons (ps_fld (pv 0) (pv 1) rfl) (pss_cons (ps_fld (pv 0) (pv 2) rfl) (pss_one (ps_fld (pv 0) pe_int rfl))), ?_⟩
    refine ⟨_, rfl, _, rfl, p, _, dx, _, rfl, hp, T.cl, T.n_tokens, by show 0 < 1000; decide, _, rfl, _, rfl, p, _, dx, _, rfl, upd_same, T.cl, T.n_stops, by show 1 < 1000; decide, _, rfl, p, _, dx, _, rfl, upd_same, T.cl, T.n_at, ?_, ?_⟩
    · exact Nat.lt_of_le_of_lt (Nat.le_trans (length_putF _ _ _) (Nat.succ_le_succ (length_putF _ _ _))) (by show 2 < 1000; decide)
    · refine k _ (but_upd.trans (but_upd.trans but_upd)) ⟨dx, ?_⟩
      rw [upd_same]
      have e : putF "at" (V.int 0) (putF "stops" (.bl b) (putF "tokens" (.ref t) [])) = ([("tokens", .ref t), ("stops", .bl b), ("at", .int ((0 : Nat) : Int))] : List (Str × V)) := by kernel_rfl
      rw [← e]
end
end K6

set_option Elab.async false
set_option linter.all false
set_option maxRecDepth 100000
set_option maxHeartbeats 4000000
set_option autoImplicit false
namespace K6
open PySem PySem.Spec PyProof.Rows L2
open TL (tl len_tl ext_tl)
/-! ### look, take -/
section
variable {P : Program} {w : World} {K : PySem.W.Frag} {mg : Str → Option Value} {base : Heap}
theorem sc_look : FnScope ["self", "options", "token"] ["self", "options"] (defScope s_Parser_look) := ⟨rfl, rfl, rfl, by decide +kernel, rfl, by decide +kernel, by decide +kernel⟩
theorem ok_look (T : Tx K mg) : Mf P w K mg base 3 (He.ga K "Parser") "look" ["self", "options"] (spLook K (He.ga K "Parser")) := by
  have DO : Df P w K mg base 1 "in_order" ["options"] (spOrder K) := ok_order T
  have DS : Df P w K mg base 1 "shown" ["token"] (spShown K) := ok_shown T
  have DJ : Df P w K mg base 1 "joined" ["options"] spJoined := ok_joined T
  refine mf_mk T.m_look T.d_Parser_look sc_look (fun vs H Q E h => ?_) (fun _ _ _ _ _ _ us hl => match us, hl with | [_, _], _ => rfl) (fun cdv A outer s H vs Q E hr h => ?_)
  · obtain ⟨p, o, t, b, n, ts, k, os, rfl, _⟩ := h
    rfl
  · obtain ⟨p, o, t, b, n, ts, k, os, rfl, ⟨dx, hp⟩, ⟨as, ht, hts⟩, hn, hk, ho, hne, l1, l2, l3⟩ := h
    have hr1 : Room 1 _ := hr.mono (by decide)
    refine ⟨_, pss_cons (ps_set (i := 2) sc_look.nd rfl (Or.inl rfl) (pe_ix ix_list (pe_fld (pv 0) rfl) (pe_fld (pv 0) rfl) (fun _ _ => rfl)))
      (pss_cons (ps_if (PW.pt (pw_and (pt_cmpR op_eq (pe_ix ix_tup (pv 2) pe_int (fun _ _ => rfl)) pe_str (nomark _)) (pw_and1 (pt_val (pe_fld (pv 0) rfl)))))
        (pss_one (ps_ah T rfl hr tkE (pa_cons (pe_d DO hr1 takes0 (pa_cons (pv 1) pa_nil)) pa_nil))) pss_nil)
      (pss_cons (ps_if (pt_cmpR op_notIn_seq (pe_d DS hr1 takes0 (pa_cons (pv 2) pa_nil)) (pv 1) rfl)
        (pss_one (ps_te T rfl hr tkE (pa_cons (pe_ix ix_tup (pv 2) pe_int (fun _ _ => rfl)) (pa_cons (pe_op op_add_str pe_str (pe_d DJ hr1 takes0 (pa_cons (pe_d DO hr1 takes0 (pa_cons (pv 1) pa_nil)) pa_nil))) pa_nil)))) pss_nil)
      (pss_one (ps_ret (pv 2))))), ?_⟩
    obtain ⟨a, ha, hak⟩ := pair_at hts hn
    have hak' : H a = some (.tup [.str k.k.cls, .str k.w, .int (k.c : Int)]) := hak
    refine ⟨_, rfl, p, _, dx, _, _, rfl, hp, T.cl, T.n_tokens, rfl, _, rfl, p, _, dx, _, _, rfl, hp, T.cl, T.n_at, rfl, t, _, n, .ref a, rfl, rfl, SqL.of ht, atI_nat (by rw [List.getElem?_map, ha]; rfl), ?_⟩
    refine ⟨_, rfl, a, _, (0 : Nat), _, rfl, rfl, SqT.of hak', atI_nat rfl, rfl, _, rfl, ?_⟩
    have e1 : decide (V.str k.k.cls = V.str (Str.ofString "end")) = decide (k.k = .fin) := by
      rw [← cls_end k.k (all_kds k.k)]
      exact decide_eq_decide.mpr ⟨fun z => V.str.inj z, fun z => congrArg V.str z⟩
    rw [e1]
    by_cases hx : k.k = .fin ∧ b = true
    · obtain ⟨h1, rfl⟩ := hx
      rw [decide_eq_true h1]
      refine iteT ⟨_, rfl, p, _, dx, _, _, rfl, hp, T.cl, T.n_stops, rfl, _, rfl, iteT ?_⟩
      refine ⟨_, rfl, o, os, rfl, ho, fun q H1 sm hq0 hq => ah_go rfl hq ((l1 h1 rfl).same sm)⟩
    · have h0 : k.k ≠ .fin ∨ (k.k = .fin ∧ b = false) := by
        by_cases hf : k.k = .fin
        · cases b
          · exact .inr ⟨hf, rfl⟩
          · exact absurd ⟨hf, rfl⟩ hx
        · exact .inl hf
      rcases h0 with hf | ⟨hf, rfl⟩
      all_goals first
        | (rw [decide_eq_false hf]; refine iteF ?_)
        | (rw [decide_eq_true hf]; refine iteT ⟨_, rfl, p, _, dx, _, _, rfl, hp, T.cl, T.n_stops, rfl, _, rfl, iteF ?_⟩)
      all_goals
        refine ⟨_, rfl, a, k, rfl, hak, hk, fun H1 sm => ⟨_, rfl, o, _, rfl, .inr (s_sqT sm ho), rfl, by simp [flatV], _, rfl, ?_⟩⟩
        rw [if_pos rfl, inV_strs]
        by_cases hm : k.k.shown ∈ os
        · rw [decide_eq_true hm]
          exact iteF ⟨_, rfl, l3 hx hm a H1 sm (sm _ _ hak)⟩
        · rw [decide_eq_false hm]
          refine iteT ⟨_, rfl, a, _, (2 : Nat), _, rfl, rfl, SqT.of (sm _ _ hak'), atI_nat rfl, ?_⟩
          refine ⟨_, rfl, o, os, rfl, s_sqT sm ho, fun q H2 sm2 hq0 hq => ?_⟩
          refine ⟨q, _, rfl, hq, hne, (ordered_len os).1, (ordered_len os).2, fun H3 sm3 => ?_⟩
          refine ⟨_, _, rfl, rfl, Evl.sz_of ?_, ?_⟩
          · have := joinW_len (ordered_len os).1 (ordered_len os).2
            have e9 : ("expected " : Str).length = 9 := by decide +kernel
            omega
          · exact te_go rfl ((l2 hx hm).same ((sm.trans sm2).trans sm3))
theorem sc_take : FnScope ["self", "options", "token"] ["self", "options"] (defScope s_Parser_take) := ⟨rfl, rfl, rfl, by decide +kernel, rfl, by decide +kernel, by decide +kernel⟩
theorem ok_take (T : Tx K mg) : Mf P w K mg base 4 (He.ga K "Parser") "take" ["self", "options"] (spTake K (He.ga K "Parser")) := by
  have ML : Mf P w K mg base 3 (He.ga K "Parser") "look" ["self", "options"] (spLook K (He.ga K "Parser")) := ok_look T
  refine mf_mk T.m_take T.d_Parser_take sc_take (fun vs H Q E h => ?_) (fun _ _ _ _ _ _ us hl => match us, hl with | [_, _], _ => rfl) (fun cdv A outer s H vs Q E hr h => ?_)
  · obtain ⟨p, o, t, b, n, ts, k, os, rfl, _⟩ := h
    rfl
  · obtain ⟨p, o, t, b, n, ts, k, os, rfl, hP, ht, hn, hk, ho, hne, l1, l2, l3⟩ := h
    refine ⟨_, pss_cons (ps_set (i := 2) sc_take.nd rfl (Or.inl rfl) (pe_m (pv 0) T.cl ML hr tkE (pa_cons (pv 1) pa_nil)))
      (pss_cons (ps_fldaug (pv 0) pe_int in_add) (pss_one (ps_ret (pv 2)))), ?_⟩
    obtain ⟨dx, hp⟩ := hP
    refine ⟨_, rfl, p, dx, _, rfl, hp, rfl, _, rfl, p, o, t, b, n, ts, k, os, rfl, ⟨dx, hp⟩, ht, hn, hk, ho, hne, l1, l2, fun hx hm a H1 sm hak => ?_⟩
    have hp1 := sm _ _ hp
    refine ⟨_, rfl, p, _, dx, _, _, rfl, hp1, T.cl, T.n_at, rfl, _, _, rfl, rfl, dx, _, hp1, by show 3 < 1000; decide, _, rfl, ?_⟩
    refine l3 hx hm a _ (s_thenBut sm but_upd) ⟨dx, ?_⟩ ?_
    · rw [upd_same]
      rfl
    · rw [upd_ne (ne_of hak hp1 (fun z => nomatch z))]
      exact hak
end
end K6

set_option Elab.async false
set_option linter.all false
set_option maxRecDepth 100000
set_option maxHeartbeats 4000000
set_option autoImplicit false
namespace K6
open PySem PySem.Spec PyProof.Rows L2
open TL (tl len_tl ext_tl)
/-! ### lists of tokens in good order; what look and take come to -/
def Good (ts : List Tk) : Prop := ts.length ≤ 1000 ∧ ∀ n k, ts[n]? = some k → TkOk k ∧ (k.k = .fin ∨ n + 1 < ts.length)
theorem Good.get {ts : List Tk} (h : Good ts) {n : Nat} (hn : n < ts.length) : ∃ k, ts[n]? = some k ∧ TkOk k ∧ (k.k = .fin ∨ n + 1 < ts.length) := ⟨ts[n], List.getElem?_eq_getElem hn, h.2 n _ (List.getElem?_eq_getElem hn)⟩
theorem run_at {b : Bool} {s : Sta} {ts : List Tk} {n : Nat} {k : Tk} (e : ts[n]? = some k) : run b s (ts.drop n) = if k.k = .fin ∧ b = true then .ah (dueW s) else match step s k.k with
    | none => .er k.c (expd (dueW s))
    | some s' => if k.k = .fin then .ok else run b s' (ts.drop (n + 1)) := by
  obtain ⟨h, rfl⟩ := List.getElem?_eq_some_iff.mp e
  rw [List.drop_eq_getElem_cons h]
  rfl
theorem run_go {b : Bool} {s s' : Sta} {ts : List Tk} {n : Nat} {k : Tk} (e : ts[n]? = some k) (h : step s k.k = some s') (hk : k.k ≠ .fin) : run b s (ts.drop n) = run b s' (ts.drop (n + 1)) := by
  rw [run_at e, if_neg (fun z => hk z.1), h]
  exact if_neg hk
theorem looks_fit {K : PySem.W.Frag} {E : XK} {H : Hp} {p : Addr} {b : Bool} {s : Sta} {ts : List Tk} {n : Nat} {k : Tk} {os : List Str} {G : Prop} (F : Fit s os) (e : ts[n]? = some k) (W : Wish K E p H (run b s (ts.drop n)))
    (g : ∀ s', step s k.k = some s' → ¬ (k.k = .fin ∧ b = true) → G) : Looks6 K E H b k os G := by
  rw [run_at e] at W
  have f2 := F.2 k.k (all_kds k.k)
  refine ⟨fun h1 h2 => ?_, fun h1 h2 => ?_, fun h1 h2 => ?_⟩
  · rw [if_pos ⟨h1, h2⟩] at W
    rw [F.1]
    exact W H (But.refl _ _)
  · rw [if_neg h1] at W
    rw [decide_eq_false h2] at f2
    cases hs : step s k.k with
    | none =>
      rw [hs] at W
      rw [F.1]
      exact W H (But.refl _ _)
    | some s' =>
      rw [hs] at f2
      cases f2
  · rw [decide_eq_true h2] at f2
    cases hs : step s k.k with
    | none =>
      rw [hs] at f2
      cases f2
    | some s' => exact g s' hs h1
theorem looks_known {K : PySem.W.Frag} {E : XK} {H : Hp} {b : Bool} {k : Tk} {os : List Str} {G : Prop} (h : k.k ≠ .fin ∨ b = false) (m : k.k.shown ∈ os) (g : G) : Looks6 K E H b k os G := by
  refine ⟨fun h1 h2 => ?_, fun _ h2 => absurd m h2, fun _ _ => g⟩
  rcases h with h | h
  · exact absurd h1 h
  · rw [h] at h2
    cases h2
theorem Looks6.same {K : PySem.W.Frag} {E : XK} {H H1 : Hp} {b : Bool} {k : Tk} {os : List Str} {G G' : Prop} (h : Looks6 K E H b k os G) (e : Same H H1) (g : G → G') : Looks6 K E H1 b k os G' :=
  ⟨fun a c => (h.1 a c).same e, fun a c => (h.2.1 a c).same e, fun a c => g (h.2.2 a c)⟩
theorem ParAt.ins {C : Addr} {H : Hp} {p t : Addr} {b : Bool} {n : Nat} (h : ParAt C H p t b n) : ∃ C dx fs, H p = some (.ins C dx fs) := by
  obtain ⟨dx, h⟩ := h
  exact ⟨_, dx, _, h⟩
theorem take1 {K : PySem.W.Frag} {C : Addr} {W : WX} {σ : L2.St} {H : Hp} {Q : VK} {p t : Addr} {b : Bool} {n : Nat} {ts : List Tk} {k : Tk} {x : Str} (h0 : σ[0]? = some (some (.ref p))) (A : ParAt C H p t b n) (B : TksAt H t ts) (e : ts[n]? = some k) (ok : TkOk k)
    (ne : ordered [x] ≠ []) (L : Looks6 K (WE W σ) H b k [x] (∀ a H', But p H H' → ParAt C H' p t b (n + 1) → H' a = some k.ho → Q (.ref a) H')) : tMS C "take" (spTake K C) W (tVar 0) (tCons (tTup (tCons (tC (.str x)) tNil)) tNil) σ H Q := by
  obtain ⟨dx, hp⟩ := A
  refine ⟨_, h0, p, dx, _, rfl, hp, rfl, by show 1 ≤ sizeLine; decide, fun o ho => ?_⟩
  have sm := same_new (o := .tup [.str x]) ho
  exact ⟨p, o, t, b, n, ts, k, [x], rfl, ⟨dx, sm _ _ hp⟩, B.same sm, e, ok, SqT.of upd_same, ne, L.same sm fun g a H' bb => g a H' (s_thenBut sm bb)⟩
theorem look2 {K : PySem.W.Frag} {C : Addr} {W : WX} {σ : L2.St} {H : Hp} {Q : VK} {p t : Addr} {b : Bool} {n : Nat} {ts : List Tk} {k : Tk} {x y : Str} (h0 : σ[0]? = some (some (.ref p))) (A : ParAt C H p t b n) (B : TksAt H t ts) (e : ts[n]? = some k) (ok : TkOk k)
    (ne : ordered [x, y] ≠ []) (L : Looks6 K (WE W σ) H b k [x, y] (∀ a H', Same H H' → H' a = some k.ho → Q (.ref a) H')) : tMS C "look" (spLook K C) W (tVar 0) (tCons (tTup (tCons (tC (.str x)) (tCons (tC (.str y)) tNil))) tNil) σ H Q := by
  obtain ⟨dx, hp⟩ := A
  refine ⟨_, h0, p, dx, _, rfl, hp, rfl, by show 2 ≤ sizeLine; decide, fun o ho => ?_⟩
  have sm := same_new (o := .tup [.str x, .str y]) ho
  exact ⟨p, o, t, b, n, ts, k, [x, y], rfl, ⟨dx, sm _ _ hp⟩, B.same sm, e, ok, SqT.of upd_same, ne, L.same sm fun g a H' bb => g a H' (sm.trans bb)⟩
/-! ### words and kinds -/
theorem law_inj : ∀ a ∈ kds, ∀ b ∈ kds, a.law = b.law → a = b := by decide +kernel
theorem law_sign : ∀ c ∈ kds, c ≠ .num → c ≠ .fin → c.law ∉ nums ∧ c.law ≠ "" := by decide +kernel
theorem w_is {k : Tk} {c : Kd} (h : TkOk k) (h1 : c ≠ .num) (h2 : c ≠ .fin) : decide (V.str k.w = V.str c.law) = decide (k.k = c) := by
  have f := law_sign c (all_kds c) h1 h2
  refine decide_eq_decide.mpr ⟨fun z => ?_, fun z => ?_⟩
  · have z2 := V.str.inj z
    rcases h with (⟨e1, e2⟩ | ⟨e1, e2, e3⟩) | ⟨e1, e2⟩
    · rw [z2] at e2
      exact absurd e2 f.1
    · exact law_inj _ (all_kds _) _ (all_kds _) (e3.symm.trans z2)
    · exact absurd (z2.symm.trans e2) f.2
  · rcases h with (⟨e1, e2⟩ | ⟨e1, e2, e3⟩) | ⟨e1, e2⟩
    · exact absurd (z.symm.trans e1) h1
    · rw [e3, z]
    · exact absurd (z.symm.trans e1) h2
theorem c_is : ∀ k ∈ kds, decide (V.str k.cls = V.str "number") = decide (k = .num) := by decide +kernel
/-! ### what whole gives -/
def NumAt (H : Hp) (a : Addr) : Prop := ∃ k : Tk, H a = some k.ho ∧ k.k = .num ∧ TkOk k
theorem NumAt.keep {H H' : Hp} {a : Addr} (h : NumAt H a) (e : ∀ c u, H c = some (.tup u) → H' c = some (.tup u)) : NumAt H' a := by
  obtain ⟨k, h1, h2⟩ := h
  exact ⟨k, e _ _ h1, h2⟩
def FldAt (H : Hp) (a : Addr) : Prop := (∃ (x : Addr) (k : Tk), H a = some (.lst [.ref x]) ∧ H x = some k.ho ∧ TkOk k ∧ (k.k = .num ∨ k.k = .sta)) ∨ (∃ x y : Addr, H a = some (.lst [.ref x, .ref y]) ∧ NumAt H x ∧ NumAt H y)
theorem FldAt.keep {H H' : Hp} {a : Addr} (h : FldAt H a) (e : ∀ c u, H c = some (.tup u) → H' c = some (.tup u)) (e2 : ∀ o, H a = some o → H' a = some o) : FldAt H' a := by
  rcases h with ⟨x, k, h1, h2, h3⟩ | ⟨x, y, h1, h2, h3⟩
  · exact .inl ⟨x, k, e2 _ h1, e _ _ h2, h3⟩
  · exact .inr ⟨x, y, e2 _ h1, h2.keep e, h3.keep e⟩
theorem FldAt.lst {H : Hp} {a : Addr} (h : FldAt H a) : ∃ xs, H a = some (.lst xs) := by
  rcases h with ⟨x, k, h1, _⟩ | ⟨x, y, h1, _⟩ <;> exact ⟨_, h1⟩
def RuleAt (N : Addr → Prop) (H : Hp) (r : Addr) : Prop := ∃ (a f e : Addr) (as : List Addr), H r = some (.tup [.ref a, .ref f, .ref e]) ∧ NumAt H a ∧ H f = some (.lst (as.map V.ref)) ∧ N f ∧ (∀ x ∈ as, FldAt H x ∧ N x) ∧ (∃ k : Tk, H e = some k.ho) ∧ as.length ≤ 1000
theorem RuleAt.keep {N N' : Addr → Prop} {H H' : Hp} {r : Addr} (h : RuleAt N H r) (e : ∀ c u, H c = some (.tup u) → H' c = some (.tup u)) (e2 : ∀ c xs, N c → H c = some (.lst xs) → H' c = some (.lst xs)) (hN : ∀ c xs, H c = some (.lst xs) → N c → N' c) : RuleAt N' H' r := by
  obtain ⟨a, f, x, as, h1, h2, h3, h4, h5, ⟨k, h6⟩, h7⟩ := h
  refine ⟨a, f, x, as, e _ _ h1, h2.keep e, e2 _ _ h4 h3, hN _ _ h3 h4, fun y hy => ?_, ⟨k, e _ _ h6⟩, h7⟩
  obtain ⟨g1, g2⟩ := h5 y hy
  obtain ⟨xs, hl⟩ := g1.lst
  refine ⟨g1.keep e fun o ho => ?_, hN _ _ hl g2⟩
  rw [hl] at ho
  cases ho
  exact e2 _ _ g2 hl
/-- all but f and p is as it was -/
def Fr (f p : Addr) (H H' : Hp) : Prop := ∀ b o, b ≠ f → b ≠ p → H b = some o → H' b = some o
theorem Fr.trans {f p : Addr} {H H1 H2 : Hp} (a : Fr f p H H1) (b : Fr f p H1 H2) : Fr f p H H2 := fun c o n m h => b c o n m (a c o n m h)
theorem fr_same {f p : Addr} {H H1 : Hp} (a : Same H H1) : Fr f p H H1 := fun c o _ _ h => a c o h
theorem fr_but {f p : Addr} {H H1 : Hp} (a : But p H H1) : Fr f p H H1 := fun c o _ m h => a c o m h
theorem fr_upd {f p : Addr} {H : Hp} {o : HO} : Fr f p H (upd H f o) := fun c u n _ h => by
  rw [upd_ne n]
  exact h
/-- something new has changed -/
theorem Fr.mut {f p L : Addr} {H H1 : Hp} {o : HO} (e : Fr f p H H1) (h : H L = none) : Fr f p H (upd H1 L o) := fun b u n m z => by
  rw [upd_ne (ne_of_none z h)]
  exact e b u n m z
theorem Fr.tup {f p : Addr} {H H1 : Hp} {xs : List V} {C dx} {fs : List (Str × V)} (e : Fr f p H H1) (hf : H f = some (.lst xs)) (hp : H p = some (.ins C dx fs)) : ∀ c u, H c = some (.tup u) → H1 c = some (.tup u) :=
  fun c u h => e c _ (ne_of h hf (fun z => nomatch z)) (ne_of h hp (fun z => nomatch z)) h
theorem But.tup {p : Addr} {H H1 : Hp} {C dx} {fs : List (Str × V)} (e : But p H H1) (hp : H p = some (.ins C dx fs)) : ∀ c u, H c = some (.tup u) → H1 c = some (.tup u) := fun c u h => e c _ (ne_of h hp (fun z => nomatch z)) h
theorem But.lst {p : Addr} {H H1 : Hp} {C dx} {fs : List (Str × V)} (e : But p H H1) (hp : H p = some (.ins C dx fs)) : ∀ c u, H c = some (.lst u) → H1 c = some (.lst u) := fun c u h => e c _ (ne_of h hp (fun z => nomatch z)) h
end K6

set_option Elab.async false
set_option linter.all false
set_option maxRecDepth 100000
set_option maxHeartbeats 4000000
set_option autoImplicit false
namespace K6
open PySem PySem.Spec PyProof.Rows L2
open TL (tl len_tl ext_tl)
/-! ### rule -/
def spRule (K : PySem.W.Frag) (C : Addr) : Sp := fun vs H Q E => ∃ (p t : Addr) (b : Bool) (n : Nat) (ts : List Tk) (k : Tk), vs = [.ref p] ∧ ParAt C H p t b n ∧ TksAt H t ts ∧ Good ts ∧ ts[n]? = some k ∧ k.k = .num ∧ Wish K E p H (run b .rules (ts.drop n)) ∧
  ∀ r H' n', But p H H' → ParAt C H' p t b n' → n < n' → n' < ts.length → run b .rules (ts.drop n) = run b .rules (ts.drop n') → RuleAt (fun x => H x = none) H' r → Q (.ref r) H'
/-- at the head of the loop -/
structure AtF (C : Addr) (H0 H : Hp) (p t : Addr) (b : Bool) (n : Nat) (ts : List Tk) (a f : Addr) (n1 : Nat) (as : List Addr) : Prop where
  bt : But p H0 H
  par : ParAt C H p t b n1
  tks : TksAt H t ts
  lt : n < n1
  le : n1 < ts.length
  act : NumAt H a
  fl : H f = some (.lst (as.map V.ref))
  f0 : H0 f = none
  fs : ∀ x ∈ as, FldAt H x ∧ H0 x = none ∧ x ≠ f
  al : as.length ≤ n1
def Coming (b : Bool) (n : Nat) (ts : List Tk) (n1 : Nat) (k : Tk) : Prop := TkOk k ∧ ∃ s, run b .rules (ts.drop n) = run b s (ts.drop n1) ∧ ((k.k = .num ∧ s = .low) ∨ (k.k = .sta ∧ s = .behind) ∨ (k.k = .sem ∧ s = .rules))
section
variable {P : Program} {w : World} {K : PySem.W.Frag} {mg : Str → Option Value} {base : Heap}
theorem sc_rule : FnScope ["self", "action", "fields", "token", "following"] ["self"] (defScope s_Parser_rule) := ⟨rfl, rfl, rfl, by decide +kernel, rfl, by decide +kernel, by decide +kernel⟩
theorem ok_rule (T : Tx K mg) : Mf P w K mg base 5 (He.ga K "Parser") "rule" ["self"] (spRule K (He.ga K "Parser")) := by
  have ML : Mf P w K mg base 3 (He.ga K "Parser") "look" ["self", "options"] (spLook K (He.ga K "Parser")) := ok_look T
  have MT : Mf P w K mg base 4 (He.ga K "Parser") "take" ["self", "options"] (spTake K (He.ga K "Parser")) := ok_take T
  refine mf_mk T.m_rule T.d_Parser_rule sc_rule (fun vs H Q E h => ?_) (fun _ _ _ _ _ _ us hl => match us, hl with | [_], _ => rfl) (fun cdv A outer s H vs Q E hr h => ?_)
  · obtain ⟨p, t, b, n, ts, k, rfl, _⟩ := h
    rfl
  · obtain ⟨p, t, b, n, ts, k, rfl, hP, hT, hG, hn, hk, wish, out⟩ := h
    have hr3 : Room 3 _ := hr.mono (by decide)
    refine ⟨_, pss_cons (ps_set (i := 1) sc_rule.nd rfl (Or.inl rfl) (pe_m (pv 0) T.cl MT hr tkE (pa_cons (pe_tup (pa_cons pe_str pa_nil)) pa_nil)))
      (pss_cons (ps_expr (pe_m (pv 0) T.cl MT hr tkE (pa_cons (pe_tup (pa_cons pe_str pa_nil)) pa_nil)))
      (pss_cons (ps_set (i := 2) sc_rule.nd rfl (Or.inl rfl) (pe_lst pa_nil))
      (pss_cons (ps_set (i := 3) sc_rule.nd rfl (Or.inl rfl) (pe_m (pv 0) T.cl MT hr tkE (pa_cons (pe_gr T.g_FIELDS) pa_nil)))
      (pss_cons (ps_while pwE (pt_cmpR op_ne (pe_ix ix_tup (pv 3) pe_int (fun _ _ => rfl)) pe_str (nomark _))
        (pss_cons (ps_expr (pe_app (pv 2) (pe_lst (pa_cons (pv 3) pa_nil))))
        (pss_cons (ps_set (i := 4) sc_rule.nd rfl (Or.inl rfl) (pe_op op_catT (pe_gr T.g_FIELDS) (pe_tup (pa_cons pe_str pa_nil))))
        (pss_cons (ps_if (PW.pt (pw_and (pt_cmpR op_eq (pe_ix ix_tup (pv 3) pe_int (fun _ _ => rfl)) pe_str (nomark _))
            (pw_and1 (pt_cmpR op_eq (pe_ix ix_tup (pe_m (pv 0) T.cl ML hr3 tkE (pa_cons (pe_op op_catT (pv 4) (pe_tup (pa_cons pe_str pa_nil))) pa_nil)) pe_int (fun _ _ => rfl)) pe_str (nomark _)))))
          (pss_cons (ps_expr (pe_m (pv 0) T.cl MT hr tkE (pa_cons (pe_tup (pa_cons pe_str pa_nil)) pa_nil)))
            (pss_one (ps_expr (pe_app (pe_ix ix_list (pv 2) (pe_un un_neg pe_int) (fun _ _ => rfl)) (pe_m (pv 0) T.cl MT hr tkE (pa_cons (pe_tup (pa_cons pe_str pa_nil)) pa_nil))))))
          pss_nil)
        (pss_one (ps_set (i := 3) sc_rule.nd rfl (Or.inl rfl) (pe_m (pv 0) T.cl MT hr tkE (pa_cons (pv 4) pa_nil))))))))
      (pss_one (ps_ret (pe_tup (pa_cons (pv 1) (pa_cons (pv 2) (pa_cons (pv 3) pa_nil)))))))))), ?_⟩
    have kn : k.k ≠ .fin := fun z => by rw [hk] at z; cases z
    have okk := (hG.2 n k hn).1
    have hn1 : n + 1 < ts.length := (hG.2 n k hn).2.resolve_left kn
    have r1 := run_go (b := b) (s := .rules) (s' := .action) hn (by rw [hk]; rfl) kn
    refine take1 rfl hP hT hn okk (by decide +kernel) (looks_known (.inl kn) (by rw [hk]; decide +kernel) fun a H1 b1 P1 ha => ?_)
    obtain ⟨k1, e1, ok1, g1⟩ := hG.get hn1
    have T1 := hT.but b1 hP.ins
    have w1 : Wish K E p H1 (run b .action (ts.drop (n + 1))) := by
      rw [← r1]
      exact wish.at b1
    refine take1 rfl P1 T1 e1 ok1 (by decide +kernel) (looks_fit (s := .action) (by decide +kernel) e1 w1 fun s1 hs1 nf1 a2 H2 b2 P2 ha2 => ?_)
    have k1f : k1.k ≠ .fin := fun z => by rw [z] at hs1; cases hs1
    have es1 : s1 = .field := by
      cases hk1 : k1.k <;> rw [hk1] at hs1 <;> first | (cases hs1; done) | (cases hs1; rfl)
    subst es1
    have r2 := run_go (b := b) e1 hs1 k1f
    have hn2 : n + 1 + 1 < ts.length := g1.resolve_left k1f
    obtain ⟨k2, e2, ok2, g2⟩ := hG.get hn2
    have T2 := T1.but b2 P1.ins
    have b12 := b1.trans b2
    refine ⟨by show 0 ≤ sizeLine; decide, fun f hf => ?_⟩
    have sm3 := same_new (o := .lst []) hf
    have f0 : H f = none := b12.free (fun z => by
      obtain ⟨_, _, _, hp⟩ := P2.ins
      rw [z, hp] at hf
      cases hf) hf
    have ef3 : (upd H2 f (.lst [])) f = some (.lst []) := upd_same
    generalize upd H2 f (.lst []) = H3 at sm3 ef3
    have P3 := P2.same sm3
    have b3 := b12.same sm3
    have w3 : Wish K E p H3 (run b .field (ts.drop (n + 1 + 1))) := by
      rw [← r2, ← r1]
      exact wish.at b3
    obtain ⟨dx3, hp3⟩ := P3
    refine ⟨_, rfl, p, dx3, _, rfl, hp3, rfl, p, _, t, b, n + 1 + 1, ts, k2, ["a number", "\"*\""], rfl, ⟨dx3, hp3⟩, T2.same sm3, e2, ok2, T.t_FIELDS H3, by decide +kernel, looks_fit (s := .field) (by decide +kernel) e2 w3 fun s2 hs2 nf2 x4 H4 b4 P4 hx4 => ?_⟩
    have k2f : k2.k ≠ .fin := fun z => by rw [z] at hs2; cases hs2
    have r3 := run_go (b := b) e2 hs2 k2f
    refine ⟨fun m σ H' => ∃ (n1 : Nat) (as : List Addr) (x : Addr) (k' : Tk) (g : Option V), σ = [some (.ref p), some (.ref a), some (.ref f), some (.ref x), g] ∧ AtF (He.ga K "Parser") H H' p t b n ts a f n1 as ∧ m = ts.length - n1 ∧ H' x = some k'.ho ∧ Coming b n ts n1 k',
      ⟨_, n + 1 + 1 + 1, [], x4, k2, none, rfl, ⟨b3.trans b4, P4, (T2.same sm3).but b4 ⟨_, dx3, _, hp3⟩, by omega, g2.resolve_left k2f, ?_, b4.lst hp3 _ _ ef3, f0, nofun, Nat.zero_le _⟩, rfl, hx4, ok2, s2, by rw [r1, r2, r3], ?_⟩, ?_⟩
    · refine ⟨k, b4.tup hp3 _ _ (sm3 _ _ ?_), hk, okk⟩
      obtain ⟨_, _, _, hp1⟩ := P1.ins
      exact b2.tup hp1 _ _ ha
    · cases hk2 : k2.k <;> rw [hk2] at hs2 <;> first | (cases hs2; done) | (cases hs2; simp)
    rintro m σ H' ⟨n1, as, x, k', g, rfl, A, rfl, hx, okx, s1, hrun, hc⟩
    have hx' : H' x = some (.tup [.str k'.k.cls, .str k'.w, .int (k'.c : Int)]) := hx
    have hal : as.length ≤ 1000 := Nat.le_trans A.al (Nat.le_trans (Nat.le_of_lt A.le) hG.1)
    refine ⟨_, rfl, x, _, (1 : Nat), _, rfl, rfl, SqT.of hx', atI_nat rfl, rfl, _, rfl, ?_⟩
    rw [show decide (V.str k'.w = V.str (Str.ofString ";")) = decide (k'.k = .sem) from w_is (c := .sem) okx (by decide) (by decide)]
    by_cases hsem : k'.k = .sem
    · rw [decide_eq_true hsem]
      refine iteF ⟨_, rfl, _, rfl, _, rfl, by show 3 ≤ sizeLine; decide, fun r hr0 => ?_⟩
      have sm := same_new (o := .tup [V.ref a, .ref f, .ref x]) hr0
      have es : s1 = .rules := by
        rcases hc with ⟨h1, _⟩ | ⟨h1, _⟩ | ⟨_, h2⟩
        · rw [hsem] at h1; cases h1
        · rw [hsem] at h1; cases h1
        · exact h2
      refine out r _ n1 (A.bt.same sm) (A.par.same sm) A.lt A.le (es ▸ hrun) ⟨a, f, x, as, upd_same, A.act.keep fun c u z => sm _ _ z, sm _ _ A.fl, A.f0, fun y hy => ?_, ⟨k', sm _ _ hx⟩, hal⟩
      obtain ⟨h1, h2, _⟩ := A.fs y hy
      exact ⟨h1.keep (fun c u z => sm _ _ z) fun o z => sm _ _ z, h2⟩
    · rw [decide_eq_false hsem]
      refine iteT ⟨_, fun σ' H' q => q, ?_⟩
      obtain ⟨dx, hp⟩ := A.par
      refine ⟨_, rfl, .inl ⟨rfl, _, SqL.of A.fl⟩, _, rfl, by show 1 ≤ sizeLine; decide, fun L hL => ⟨f, _, _, rfl, rfl, same_new hL _ _ A.fl, Evl.sz_lt (by rw [List.length_map]; omega), ?_⟩⟩
      have fr2 : Fr f p H' (upd (upd H' L (.lst [.ref x])) f (.lst (as.map V.ref ++ [.ref L]))) := (fr_same (same_new hL)).trans fr_upd
      have hLf : L ≠ f := fun z => by
        rw [z, A.fl] at hL
        cases hL
      have eL : (upd (upd H' L (.lst [.ref x])) f (.lst (as.map V.ref ++ [.ref L]))) L = some (.lst [.ref x]) := by rw [upd_ne hLf, upd_same]
      have ef : (upd (upd H' L (.lst [.ref x])) f (.lst (as.map V.ref ++ [.ref L]))) f = some (.lst (as.map V.ref ++ [.ref L])) := upd_same
      have hpf : p ≠ f := ne_of hp A.fl (fun z => nomatch z)
      have ep : (upd (upd H' L (.lst [.ref x])) f (.lst (as.map V.ref ++ [.ref L]))) p = _ := (upd_ne hpf).trans (same_new hL _ _ hp)
      have bt2 : But p H (upd (upd H' L (.lst [.ref x])) f (.lst (as.map V.ref ++ [.ref L]))) := (A.bt.same (same_new hL)).mut A.f0
      generalize (upd (upd H' L (.lst [.ref x])) f (.lst (as.map V.ref ++ [.ref L]))) = H2 at fr2 eL ef ep bt2
      refine ⟨by show 1 ≤ sizeLine; decide, fun q hq => ⟨_, q, _, _, rfl, rfl, T.t_FIELDS _, SqT.of upd_same, by simp, by show 3 ≤ sizeLine; decide, (fun z => nomatch z), fun _ g hg => ?_⟩⟩
      have s3 : Same H2 (upd (upd H2 q (.tup [.str "\";\""])) g (.tup [.str "a number", .str "\"*\"", .str "\";\""])) := (same_new hq).trans (same_new hg)
      have eg : (upd (upd H2 q (.tup [.str "\";\""])) g (.tup [.str "a number", .str "\"*\"", .str "\";\""])) g = some (.tup [.str "a number", .str "\"*\"", .str "\";\""]) := upd_same
      have e4 : ([.str "a number", .str "\"*\""] ++ [.str "\";\""] : List V) = [.str "a number", .str "\"*\"", .str "\";\""] := rfl
      rw [e4]
      generalize (upd (upd H2 q (.tup [.str "\";\""])) g (.tup [.str "a number", .str "\"*\"", .str "\";\""])) = H3 at s3 eg
      have fr3 : Fr f p H' H3 := fr2.trans (fr_same s3)
      have bt3 : But p H H3 := bt2.same s3
      have ep3 := s3 _ _ ep
      have hx3 : H3 x = some k'.ho := fr3.tup A.fl hp _ _ hx
      have hx3' : H3 x = some (.tup [.str k'.k.cls, .str k'.w, .int (k'.c : Int)]) := hx3
      have hLp : L ≠ p := fun z => by
        rw [z, hp] at hL
        cases hL
      have L0 : H L = none := A.bt.free hLp hL
      have last : ∀ (Hn : Hp) (n2 : Nat) (k2 : Tk) (s2 : Sta), Fr f p H' Hn → But p H Hn → ParAt (He.ga K "Parser") Hn p t b n2 → ts[n2]? = some k2 → n1 ≤ n2 → Hn f = some (.lst (as.map V.ref ++ [.ref L])) → FldAt Hn L →
          SqT K Hn g [.str "a number", .str "\"*\"", .str "\";\""] → run b .rules (ts.drop n) = run b s2 (ts.drop n2) → (s2 = .behind ∨ (s2 = .low ∧ k2.k ≠ .dot ∧ k2.k ≠ .fin ∧ (step .low k2.k).isSome = true)) →
          spTake K (He.ga K "Parser") [.ref p, .ref g] Hn (fun v Hm => ∃ m', m' < ts.length - n1 ∧ ∃ (n1 : Nat) (as : List Addr) (x : Addr) (k' : Tk) (g' : Option V), [some (.ref p), some (.ref a), some (.ref f), some v, some (.ref g)] = [some (.ref p), some (.ref a), some (.ref f), some (.ref x), g'] ∧
            AtF (He.ga K "Parser") H Hm p t b n ts a f n1 as ∧ m' = ts.length - n1 ∧ Hm x = some k'.ho ∧ Coming b n ts n1 k') E := by
        intro Hn n2 k2 s2 frn btn ⟨dxn, hpn⟩ e2 hn12 hfn hLn hgn hr2 hs2
        obtain ⟨ok2, g2⟩ := hG.2 n2 k2 e2
        have body : ∀ s', step s2 k2.k = some s' → k2.k ≠ .dot → k2.k ≠ .fin → ∀ (y : Addr) (Hm : Hp), But p Hn Hm → ParAt (He.ga K "Parser") Hm p t b (n2 + 1) → Hm y = some k2.ho → ∃ m', m' < ts.length - n1 ∧ ∃ (n1 : Nat) (as : List Addr) (x : Addr) (k' : Tk) (g' : Option V), [some (.ref p), some (.ref a), some (.ref f), some (.ref y), some (.ref g)] = [some (.ref p), some (.ref a), some (.ref f), some (.ref x), g'] ∧
            AtF (He.ga K "Parser") H Hm p t b n ts a f n1 as ∧ m' = ts.length - n1 ∧ Hm x = some k'.ho ∧ Coming b n ts n1 k' := by
          intro s' hs' nd nf y Hm bm Pm hy
          refine ⟨_, ?_, n2 + 1, as ++ [L], y, k2, _, rfl, ⟨btn.trans bm, Pm, hT.but (btn.trans bm) hP.ins, by have := A.lt; omega, g2.resolve_left nf, ?_, ?_, A.f0, ?_, ?_⟩, rfl, hy, ok2, s', by rw [hr2, run_go e2 hs' nf], ?_⟩
          · have := A.le
            have := g2.resolve_left nf
            omega
          · exact (A.act.keep (frn.tup A.fl hp)).keep (bm.tup hpn)
          · rw [List.map_append]
            exact bm.lst hpn _ _ hfn
          · intro z hz
            rcases List.mem_append.mp hz with hz | hz
            · obtain ⟨h1, h2, h3⟩ := A.fs z hz
              obtain ⟨zs, hzl⟩ := h1.lst
              refine ⟨(h1.keep (frn.tup A.fl hp) fun o ho => frn _ _ h3 (ne_of hzl hp (fun z => nomatch z)) ho).keep (bm.tup hpn) fun o ho => bm _ _ (ne_of (frn _ _ h3 (ne_of hzl hp (fun z => nomatch z)) hzl) hpn (fun z => nomatch z)) ho, h2, h3⟩
            · rw [List.mem_singleton.mp hz]
              obtain ⟨zs, hzl⟩ := hLn.lst
              exact ⟨hLn.keep (bm.tup hpn) fun o ho => bm _ _ (ne_of hzl hpn (fun z => nomatch z)) ho, L0, hLf⟩
          · rw [List.length_append]
            have := A.al
            show as.length + 1 ≤ _
            omega
          · rcases hs2 with rfl | ⟨rfl, _⟩
            · cases hk2 : k2.k <;> rw [hk2] at hs' <;> first | (cases hs'; done) | (cases hs'; simp)
            · cases hk2 : k2.k <;> rw [hk2] at hs' nd <;> first | (cases hs'; done) | (cases hs'; simp; done) | exact absurd rfl nd
        refine ⟨p, g, t, b, n2, ts, k2, ["a number", "\"*\"", "\";\""], rfl, ⟨dxn, hpn⟩, hT.but btn hP.ins, e2, ok2, hgn, by decide +kernel, ?_⟩
        rcases hs2 with rfl | ⟨rfl, nd, nf, hs2⟩
        · refine looks_fit (s := .behind) (by decide +kernel) e2 (by rw [← hr2]; exact wish.at btn) fun s' hs' _ => ?_
          have nd : k2.k ≠ .dot := fun z => by rw [z] at hs'; cases hs'
          have nf : k2.k ≠ .fin := fun z => by rw [z] at hs'; cases hs'
          exact body s' hs' nd nf
        · obtain ⟨s', hs'⟩ := Option.isSome_iff_exists.mp hs2
          refine looks_known (.inl nf) ?_ (body s' hs' nd nf)
          cases hk2 : k2.k <;> rw [hk2] at hs' nd <;> first | (cases hs'; done) | exact absurd rfl nd | decide +kernel
      obtain ⟨k1, e1, ok1, g1⟩ := hG.get A.le
      refine ⟨_, rfl, x, _, (0 : Nat), _, rfl, rfl, SqT.of hx3', atI_nat rfl, rfl, _, rfl, ?_⟩
      rw [show decide (V.str k'.k.cls = V.str (Str.ofString "number")) = decide (k'.k = .num) from c_is _ (all_kds _)]
      rcases hc with ⟨hk', rfl⟩ | ⟨hk', rfl⟩ | ⟨hk', _⟩
      · rw [decide_eq_true hk']
        refine iteT ⟨_, rfl, p, dx, _, rfl, ep3, rfl, _, rfl, by show 1 ≤ sizeLine; decide, fun q2 hq2 => ⟨g, q2, _, _, rfl, rfl, SqT.of (same_new hq2 _ _ eg), SqT.of upd_same, by simp, by show 4 ≤ sizeLine; decide, (fun z => nomatch z), fun _ g4 hg4 => ?_⟩⟩
        have s5 : Same H3 (upd (upd H3 q2 (.tup [.str "\"..\""])) g4 (.tup [.str "a number", .str "\"*\"", .str "\";\"", .str "\"..\""])) := (same_new hq2).trans (same_new hg4)
        have bt5 := bt3.same s5
        have w5 : Wish K E p (upd (upd H3 q2 (.tup [.str "\"..\""])) g4 (.tup [.str "a number", .str "\"*\"", .str "\";\"", .str "\"..\""])) (run b .low (ts.drop n1)) := by
          rw [← hrun]
          exact wish.at bt5
        refine ⟨p, g4, t, b, n1, ts, k1, ["a number", "\"*\"", "\";\"", "\"..\""], rfl, ⟨dx, s5 _ _ ep3⟩, hT.but bt5 hP.ins, e1, ok1, SqT.of upd_same, by decide +kernel, looks_fit (s := .low) (by decide +kernel) e1 w5 fun s' hs' nf y H6 s6 hy => ?_⟩
        have sm6 : Same H3 H6 := s5.trans s6
        have fr6 := fr3.trans (fr_same sm6 (f := f) (p := p))
        have bt6 := bt3.same sm6
        have eL6 := sm6 _ _ (s3 _ _ eL)
        have ef6 := sm6 _ _ (s3 _ _ ef)
        have ep6 := sm6 _ _ ep3
        have k1f : k1.k ≠ .fin := fun z => by rw [z] at hs'; cases hs'
        have hy' : H6 y = some (.tup [.str k1.k.cls, .str k1.w, .int (k1.c : Int)]) := hy
        refine ⟨y, _, (1 : Nat), _, rfl, rfl, SqT.of hy', atI_nat rfl, rfl, _, rfl, ?_⟩
        rw [show decide (V.str k1.w = V.str (Str.ofString "..")) = decide (k1.k = .dot) from w_is (c := .dot) ok1 (by decide) (by decide)]
        by_cases hd : k1.k = .dot
        · rw [decide_eq_true hd]
          have r1' := run_go (b := b) e1 hs' k1f
          have es' : s' = .high := by
            rw [hd] at hs'
            cases hs'
            rfl
          subst es'
          refine iteT (take1 rfl ⟨dx, ep6⟩ (hT.but bt6 hP.ins) e1 ok1 (by decide +kernel) (looks_known (.inl k1f) (by rw [hd]; decide +kernel) fun a7 H7 b7 P7 ha7 => ?_))
          have fr7 := fr6.trans (fr_but b7)
          have bt7 := bt6.trans b7
          have ef7 := b7.lst ep6 _ _ ef6
          have eL7 := b7.lst ep6 _ _ eL6
          obtain ⟨k8, e8, ok8, g8⟩ := hG.get (g1.resolve_left k1f)
          have w7 : Wish K E p H7 (run b .high (ts.drop (n1 + 1))) := by
            rw [← r1', ← hrun]
            exact wish.at bt7
          refine ⟨_, rfl, 1, rfl, f, _, _, .ref L, rfl, rfl, SqL.of ef7, atI_last _ _, .inl ⟨rfl, _, SqL.of eL7⟩, ?_⟩
          refine take1 rfl P7 (hT.but bt7 hP.ins) e8 ok8 (by decide +kernel) (looks_fit (s := .high) (by decide +kernel) e8 w7 fun s8 hs8 nf8 a8 H8 b8 P8 ha8 => ?_)
          obtain ⟨_, _, _, hp7⟩ := P7.ins
          have k8n : k8.k = .num := by cases hk8 : k8.k <;> rw [hk8] at hs8 <;> first | rfl | cases hs8
          have k8f : k8.k ≠ .fin := fun z => by rw [k8n] at z; cases z
          have es8 : s8 = .behind := by
            rw [k8n] at hs8
            cases hs8
            rfl
          subst es8
          have eL8 := b8.lst hp7 _ _ eL7
          have ef8 := b8.lst hp7 _ _ ef7
          refine ⟨L, _, .ref a8, rfl, rfl, eL8, by show 1 < sizeLine; decide, ?_⟩
          have fr9 : Fr f p H' (upd H8 L (.lst ([.ref x] ++ [.ref a8]))) := (fr7.trans (fr_but b8)).mut hL
          have bt9 : But p H (upd H8 L (.lst ([.ref x] ++ [.ref a8]))) := (bt7.trans b8).mut L0
          have P9 : ParAt (He.ga K "Parser") (upd H8 L (.lst ([.ref x] ++ [.ref a8]))) p t b (n1 + 1 + 1) := by
            obtain ⟨dx8, hp8⟩ := P8
            exact ⟨dx8, by rw [upd_ne (fun z => hLp z.symm)]; exact hp8⟩
          obtain ⟨k10, e10, ok10, g10⟩ := hG.get (g8.resolve_left k8f)
          have r8 := run_go (b := b) e8 hs8 k8f
          have x9 := fr9.tup A.fl hp _ _ hx
          have a9 : (upd H8 L (.lst ([.ref x] ++ [.ref a8]))) a8 = some k8.ho := by
            rw [upd_ne (ne_of ha8 eL8 (fun z => nomatch z))]
            exact ha8
          obtain ⟨dx9, hp9⟩ := P9
          refine ⟨_, rfl, p, dx9, _, rfl, hp9, rfl, _, rfl, ?_⟩
          exact last _ (n1 + 1 + 1) k10 .behind fr9 bt9 ⟨dx9, hp9⟩ e10 (by omega) (by rw [upd_ne (fun z => hLf z.symm)]; exact ef8) (.inr ⟨x, a8, upd_same, ⟨k', x9, hk', okx⟩, ⟨k8, a9, k8n, ok8⟩⟩)
            (SqT.of (by
              have g8' := b8.tup hp7 _ _ (b7.tup ep6 _ _ (sm6 _ _ eg))
              rw [upd_ne (ne_of g8' eL8 (fun z => nomatch z))]
              exact g8')) (by rw [hrun, r1', r8]) (.inl rfl)
        · rw [decide_eq_false hd]
          refine iteF ⟨_, rfl, p, dx, _, rfl, ep6, rfl, _, rfl, ?_⟩
          exact last H6 n1 k1 .low fr6 bt6 ⟨dx, ep6⟩ e1 (Nat.le_refl _) ef6 (.inl ⟨x, k', eL6, sm6 _ _ hx3, okx, .inl hk'⟩) (SqT.of (sm6 _ _ eg)) hrun (.inr ⟨rfl, hd, k1f, by rw [hs']; rfl⟩)
      · rw [decide_eq_false (by rw [hk']; decide)]
        refine iteF (iteF ⟨_, rfl, p, dx, _, rfl, ep3, rfl, _, rfl, ?_⟩)
        exact last H3 n1 k1 .behind fr3 bt3 ⟨dx, ep3⟩ e1 (Nat.le_refl _) (s3 _ _ ef) (.inl ⟨x, k', s3 _ _ eL, hx3, okx, .inr hk'⟩) (SqT.of eg) hrun (.inl rfl)
      · exact absurd hk' hsem
end
end K6

set_option Elab.async false
set_option linter.all false
set_option maxRecDepth 100000
set_option maxHeartbeats 4000000
set_option autoImplicit false
namespace K6
open PySem PySem.Spec PyProof.Rows L2
open TL (tl len_tl ext_tl)
/-! ### whole, numbers -/
def WholeAt (H : Hp) (r : Addr) : Prop := ∃ (w q e : Addr) (ws rs : List Addr), H r = some (.tup [.ref w, .ref q, .ref e]) ∧ H w = some (.lst (ws.map V.ref)) ∧ (∀ x ∈ ws, NumAt H x) ∧ H q = some (.lst (rs.map V.ref)) ∧ (∀ x ∈ rs, RuleAt (fun _ => True) H x) ∧ NumAt H e ∧ ws.length ≤ 1000 ∧ rs.length ≤ 1000
def NumsAt (H : Hp) (r : Addr) : Prop := ∃ (f e : Addr) (as : List Addr), H r = some (.tup [.ref f, .ref e]) ∧ H f = some (.lst (as.map V.ref)) ∧ (∀ x ∈ as, NumAt H x) ∧ (∃ k : Tk, H e = some k.ho) ∧ as.length ≤ 1000
def spWalk (A : Hp → Addr → Prop) (s0 : Sta) (K : PySem.W.Frag) (C : Addr) : Sp := fun vs H Q E => ∃ (p t : Addr) (b : Bool) (ts : List Tk), vs = [.ref p] ∧ ParAt C H p t b 0 ∧ TksAt H t ts ∧ Good ts ∧ 0 < ts.length ∧ Wish K E p H (run b s0 ts) ∧
  (run b s0 ts = .ok → ∀ r H', But p H H' → A H' r → Q (.ref r) H')
theorem num_widths : ∀ k s', step .widths k = some s' → (k = .num ∧ s' = .widths) ∨ (k = .col ∧ s' = .rules) := by intro k s' h; cases k <;> cases h <;> simp
theorem num_rules : ∀ k s', step .rules k = some s' → (k = .num ∧ s' = .action) ∨ (k = .els ∧ s' = .rest) := by intro k s' h; cases k <;> cases h <;> simp
theorem num_row : ∀ k s', step .row k = some s' → (k = .num ∧ s' = .row) ∨ (k = .fin ∧ s' = .z) := by intro k s' h; cases k <;> cases h <;> simp
theorem num_start : ∀ k s', step .start k = some s' → k = .num ∧ s' = .widths := by intro k s' h; cases k <;> cases h <;> simp
theorem num_rest : ∀ k s', step .rest k = some s' → k = .num ∧ s' = .done := by intro k s' h; cases k <;> cases h <;> simp
theorem fin_done : ∀ k s', step .done k = some s' → k = .fin := by intro k s' h; cases k <;> cases h <;> simp
/-- a list of numbers being gathered -/
structure AtN (C : Addr) (H0 H : Hp) (p t : Addr) (b : Bool) (s0 s : Sta) (ts : List Tk) (f : Addr) (n : Nat) (as : List Addr) : Prop where
  bt : But p H0 H
  par : ParAt C H p t b n
  le : n < ts.length
  fl : H f = some (.lst (as.map V.ref))
  f0 : H0 f = none
  fs : ∀ x ∈ as, NumAt H x
  al : as.length ≤ n
  rn : run b s0 ts = run b s (ts.drop n)
theorem AtN.more {C : Addr} {H0 H H' : Hp} {p t : Addr} {b : Bool} {s0 s s' : Sta} {ts : List Tk} {f : Addr} {n : Nat} {as : List Addr} (A : AtN C H0 H p t b s0 s ts f n as) (bm : But p H H') (P : ParAt C H' p t b (n + 1)) (h : n + 1 < ts.length) (r : run b s (ts.drop n) = run b s' (ts.drop (n + 1))) :
    AtN C H0 H' p t b s0 s' ts f (n + 1) as := by
  obtain ⟨_, dx, _, hp⟩ := A.par.ins
  exact ⟨A.bt.trans bm, P, h, bm.lst hp _ _ A.fl, A.f0, fun x hx => (A.fs x hx).keep (bm.tup hp), Nat.le_succ_of_le A.al, A.rn.trans r⟩
theorem AtN.put {C : Addr} {H0 H H' : Hp} {p t : Addr} {b : Bool} {s0 s s' : Sta} {ts : List Tk} {f : Addr} {n : Nat} {as : List Addr} {a : Addr} {k : Tk} (A : AtN C H0 H p t b s0 s ts f n as) (bm : But p H H') (P : ParAt C H' p t b (n + 1)) (h : n + 1 < ts.length)
    (r : run b s (ts.drop n) = run b s' (ts.drop (n + 1))) (ha : H' a = some k.ho) (hk : k.k = .num) (ok : TkOk k) : AtN C H0 (upd H' f (.lst (as.map V.ref ++ [.ref a]))) p t b s0 s' ts f (n + 1) (as ++ [a]) := by
  have B := A.more bm P h r
  obtain ⟨dx, hp⟩ := B.par
  have fr : ∀ c u, H' c = some (.tup u) → (upd H' f (.lst (as.map V.ref ++ [.ref a]))) c = some (.tup u) := fun c u z => by
    rw [upd_ne (ne_of z B.fl (fun z => nomatch z))]
    exact z
  refine ⟨B.bt.mut A.f0, ⟨dx, ?_⟩, h, ?_, A.f0, fun x hx => ?_, ?_, B.rn⟩
  · rw [upd_ne (ne_of hp B.fl (fun z => nomatch z))]
    exact hp
  · rw [upd_same, List.map_append]
    rfl
  · rcases List.mem_append.mp hx with hx | hx
    · exact (B.fs x hx).keep fr
    · rw [List.mem_singleton.mp hx]
      exact ⟨k, fr _ _ ha, hk, ok⟩
  · rw [List.length_append]
    have := A.al
    show as.length + 1 ≤ _
    omega
theorem run_end {s s' : Sta} {ts : List Tk} {n : Nat} {k : Tk} {b : Bool} (e : ts[n]? = some k) (hk : k.k = .fin) (hs : step s k.k = some s') (h : ¬ (k.k = .fin ∧ b = true)) : run b s (ts.drop n) = .ok := by
  rw [run_at e, if_neg h, hs]
  exact if_pos hk
section
variable {P : Program} {w : World} {K : PySem.W.Frag} {mg : Str → Option Value} {base : Heap}
theorem sc_nums : FnScope ["self", "found"] ["self"] (defScope s_Parser_numbers) := ⟨rfl, rfl, rfl, by decide +kernel, rfl, by decide +kernel, by decide +kernel⟩
theorem ok_nums (T : Tx K mg) : Mf P w K mg base 5 (He.ga K "Parser") "numbers" ["self"] (spWalk NumsAt .row K (He.ga K "Parser")) := by
  have ML : Mf P w K mg base 3 (He.ga K "Parser") "look" ["self", "options"] (spLook K (He.ga K "Parser")) := ok_look T
  have MT : Mf P w K mg base 4 (He.ga K "Parser") "take" ["self", "options"] (spTake K (He.ga K "Parser")) := ok_take T
  refine mf_mk T.m_numbers T.d_Parser_numbers sc_nums (fun vs H Q E h => ?_) (fun _ _ _ _ _ _ us hl => match us, hl with | [_], _ => rfl) (fun cdv A outer s H vs Q E hr h => ?_)
  · obtain ⟨p, t, b, ts, rfl, _⟩ := h
    rfl
  · obtain ⟨p, t, b, ts, rfl, hP, hT, hG, h0, wish, out⟩ := h
    have hr3 : Room 3 _ := hr.mono (by decide)
    refine ⟨_, pss_cons (ps_set (i := 1) sc_nums.nd rfl (Or.inl rfl) (pe_lst pa_nil))
      (pss_cons (ps_while pwE (pt_cmpR op_eq (pe_ix ix_tup (pe_m (pv 0) T.cl ML hr3 tkE (pa_cons (pe_tup (pa_cons pe_str (pa_cons pe_str pa_nil))) pa_nil)) pe_int (fun _ _ => rfl)) pe_str (nomark _))
        (pss_one (ps_expr (pe_app (pv 1) (pe_m (pv 0) T.cl MT hr tkE (pa_cons (pe_tup (pa_cons pe_str pa_nil)) pa_nil))))))
      (pss_one (ps_ret (pe_tup (pa_cons (pv 1) (pa_cons (pe_m (pv 0) T.cl MT hr tkE (pa_cons (pe_tup (pa_cons pe_str pa_nil)) pa_nil)) pa_nil)))))), ?_⟩
    refine ⟨by show 0 ≤ sizeLine; decide, fun f hf => ?_⟩
    have sm1 := same_new (o := .lst []) hf
    have ef1 : (upd H f (.lst [])) f = some (.lst []) := upd_same
    generalize upd H f (.lst []) = H1 at sm1 ef1
    refine ⟨fun m σ H' => ∃ (n : Nat) (as : List Addr), σ = [some (.ref p), some (.ref f)] ∧ AtN (He.ga K "Parser") H H' p t b .row .row ts f n as ∧ m = ts.length - n,
      ⟨_, 0, [], rfl, ⟨s_but sm1, hP.same sm1, h0, ef1, hf, nofun, Nat.zero_le _, rfl⟩, rfl⟩, ?_⟩
    rintro m σ H' ⟨n, as, rfl, A, rfl⟩
    obtain ⟨k, e, ok, g⟩ := hG.get A.le
    have T1 := hT.but A.bt hP.ins
    have w1 : Wish K E p H' (run b .row (ts.drop n)) := by
      rw [← A.rn]
      exact wish.at A.bt
    refine look2 rfl A.par T1 e ok (by decide +kernel) (looks_fit (s := .row) (by decide +kernel) e w1 fun s' hs' nf a H2 s2 ha => ?_)
    have ha' : H2 a = some (.tup [.str k.k.cls, .str k.w, .int (k.c : Int)]) := ha
    refine ⟨a, _, (0 : Nat), _, rfl, rfl, SqT.of ha', atI_nat rfl, rfl, _, rfl, ?_⟩
    rw [show decide (V.str k.k.cls = V.str (Str.ofString "number")) = decide (k.k = .num) from c_is _ (all_kds _)]
    have hal := A.al
    have hle := A.le
    have hlen := hG.1
    have P2 := A.par.same s2
    have T2 := T1.same s2
    rcases num_row _ _ hs' with ⟨hk, rfl⟩ | ⟨hk, rfl⟩
    · rw [decide_eq_true hk]
      have kf : k.k ≠ .fin := fun z => by rw [hk] at z; cases z
      refine iteT ⟨_, fun σ' H' q => q, _, rfl, .inl ⟨rfl, _, SqL.of (s2 _ _ A.fl)⟩, ?_⟩
      refine take1 rfl P2 T2 e ok (by decide +kernel) (looks_known (.inl kf) (by rw [hk]; decide +kernel) fun a3 H3 b3 P3 ha3 => ?_)
      obtain ⟨_, _, _, hp2⟩ := P2.ins
      refine ⟨f, _, _, rfl, rfl, b3.lst hp2 _ _ (s2 _ _ A.fl), Evl.sz_lt (by rw [List.length_map]; omega), ?_⟩
      exact ⟨_, by omega, n + 1, as ++ [a3], rfl, A.put (s_thenBut s2 b3) P3 (g.resolve_left kf) (run_go e hs' kf) ha3 hk ok, rfl⟩
    · rw [decide_eq_false (by rw [hk]; decide)]
      have hb : b = false := by
        cases b
        · rfl
        · exact absurd ⟨hk, rfl⟩ nf
      refine iteF ⟨_, rfl, ?_⟩
      refine take1 rfl P2 T2 e ok (by decide +kernel) (looks_known (.inr hb) (by rw [hk]; decide +kernel) fun a3 H3 b3 P3 ha3 => ⟨by show 2 ≤ sizeLine; decide, fun r hr0 => ?_⟩)
      obtain ⟨_, _, _, hp2⟩ := P2.ins
      have s4 := same_new (o := .tup [.ref f, .ref a3]) hr0
      obtain ⟨_, _, _, hp1⟩ := A.par.ins
      refine out (A.rn.trans (run_end e hk hs' nf)) r _ ((A.bt.same s2).trans (b3.same s4)) ⟨f, a3, as, upd_same, s4 _ _ (b3.lst hp2 _ _ (s2 _ _ A.fl)), fun x hx => ?_, ⟨k, s4 _ _ ha3⟩, by omega⟩
      exact (A.fs x hx).keep fun c u z => s4 _ _ (b3.tup hp2 _ _ (s2 _ _ z))
end
end K6

set_option Elab.async false
set_option linter.all false
set_option maxRecDepth 100000
set_option maxHeartbeats 4000000
set_option autoImplicit false
namespace K6
open PySem PySem.Spec PyProof.Rows L2
open TL (tl len_tl ext_tl)
/-- behind the widths -/
structure AtR (C : Addr) (H0 H : Hp) (p t : Addr) (b : Bool) (s0 s : Sta) (ts : List Tk) (w : Addr) (ws : List Addr) (q : Addr) (n : Nat) (rs : List Addr) : Prop where
  bt : But p H0 H
  par : ParAt C H p t b n
  le : n < ts.length
  wl : H w = some (.lst (ws.map V.ref))
  ww : ∀ x ∈ ws, NumAt H x
  wn : ws.length ≤ 1000
  ql : H q = some (.lst (rs.map V.ref))
  q0 : H0 q = none
  wq : w ≠ q
  qs : ∀ x ∈ rs, RuleAt (fun y => y ≠ q) H x
  al : rs.length ≤ n
  rn : run b s0 ts = run b s (ts.drop n)
theorem AtR.more {C : Addr} {H0 H H' : Hp} {p t : Addr} {b : Bool} {s0 s s' : Sta} {ts : List Tk} {w : Addr} {ws : List Addr} {q : Addr} {n n' : Nat} {rs : List Addr} (A : AtR C H0 H p t b s0 s ts w ws q n rs) (bm : But p H H') (P : ParAt C H' p t b n') (h : n' < ts.length) (hn : n ≤ n')
    (r : run b s (ts.drop n) = run b s' (ts.drop n')) : AtR C H0 H' p t b s0 s' ts w ws q n' rs := by
  obtain ⟨_, dx, _, hp⟩ := A.par.ins
  exact ⟨A.bt.trans bm, P, h, bm.lst hp _ _ A.wl, fun x hx => (A.ww x hx).keep (bm.tup hp), A.wn, bm.lst hp _ _ A.ql, A.q0, A.wq, fun x hx => (A.qs x hx).keep (bm.tup hp) (fun c xs _ z => bm.lst hp _ _ z) fun _ _ _ z => z, Nat.le_trans A.al hn, A.rn.trans r⟩
theorem AtR.put {C : Addr} {H0 H : Hp} {p t : Addr} {b : Bool} {s0 s : Sta} {ts : List Tk} {w : Addr} {ws : List Addr} {q : Addr} {n : Nat} {rs : List Addr} {a : Addr} (A : AtR C H0 H p t b s0 s ts w ws q n rs) (ha : RuleAt (fun y => y ≠ q) H a) (hl : rs.length < n) :
    AtR C H0 (upd H q (.lst (rs.map V.ref ++ [.ref a]))) p t b s0 s ts w ws q n (rs ++ [a]) := by
  obtain ⟨dx, hp⟩ := A.par
  have fr : ∀ c u, H c = some (.tup u) → (upd H q (.lst (rs.map V.ref ++ [.ref a]))) c = some (.tup u) := fun c u z => by
    rw [upd_ne (ne_of z A.ql (fun z => nomatch z))]
    exact z
  have fl : ∀ c xs, c ≠ q → H c = some (.lst xs) → (upd H q (.lst (rs.map V.ref ++ [.ref a]))) c = some (.lst xs) := fun c xs n z => by
    rw [upd_ne n]
    exact z
  refine ⟨A.bt.mut A.q0, ⟨dx, ?_⟩, A.le, fl _ _ A.wq A.wl, fun x hx => (A.ww x hx).keep fr, A.wn, ?_, A.q0, A.wq, fun x hx => ?_, ?_, A.rn⟩
  · rw [upd_ne (ne_of hp A.ql (fun z => nomatch z))]
    exact hp
  · rw [upd_same, List.map_append]
    rfl
  · rcases List.mem_append.mp hx with hx | hx
    · exact (A.qs x hx).keep fr (fun c xs n z => fl c xs n z) fun _ _ _ z => z
    · rw [List.mem_singleton.mp hx]
      exact ha.keep fr (fun c xs n z => fl c xs n z) fun _ _ _ z => z
  · rw [List.length_append]
    show rs.length + 1 ≤ _
    omega
section
variable {P : Program} {w : World} {K : PySem.W.Frag} {mg : Str → Option Value} {base : Heap}
theorem sc_whole : FnScope ["self", "widths", "rules", "rest"] ["self"] (defScope s_Parser_whole) := ⟨rfl, rfl, rfl, by decide +kernel, rfl, by decide +kernel, by decide +kernel⟩
theorem ok_whole (T : Tx K mg) : Mf P w K mg base 6 (He.ga K "Parser") "whole" ["self"] (spWalk WholeAt .start K (He.ga K "Parser")) := by
  have ML : Mf P w K mg base 3 (He.ga K "Parser") "look" ["self", "options"] (spLook K (He.ga K "Parser")) := ok_look T
  have MT : Mf P w K mg base 4 (He.ga K "Parser") "take" ["self", "options"] (spTake K (He.ga K "Parser")) := ok_take T
  have MR : Mf P w K mg base 5 (He.ga K "Parser") "rule" ["self"] (spRule K (He.ga K "Parser")) := ok_rule T
  refine mf_mk T.m_whole T.d_Parser_whole sc_whole (fun vs H Q E h => ?_) (fun _ _ _ _ _ _ us hl => match us, hl with | [_], _ => rfl) (fun cdv A outer s H vs Q E hr h => ?_)
  · obtain ⟨p, t, b, ts, rfl, _⟩ := h
    rfl
  · obtain ⟨p, t, b, ts, rfl, hP, hT, hG, h0, wish, out⟩ := h
    have hr3 : Room 3 _ := hr.mono (by decide)
    have hr4 : Room 4 _ := hr.mono (by decide)
    refine ⟨_, pss_cons (ps_set (i := 1) sc_whole.nd rfl (Or.inl rfl) (pe_lst (pa_cons (pe_m (pv 0) T.cl MT hr4 tkE (pa_cons (pe_tup (pa_cons pe_str pa_nil)) pa_nil)) pa_nil)))
      (pss_cons (ps_while pwE (pt_cmpR op_eq (pe_ix ix_tup (pe_m (pv 0) T.cl ML hr3 tkE (pa_cons (pe_tup (pa_cons pe_str (pa_cons pe_str pa_nil))) pa_nil)) pe_int (fun _ _ => rfl)) pe_str (nomark _))
        (pss_one (ps_expr (pe_app (pv 1) (pe_m (pv 0) T.cl MT hr4 tkE (pa_cons (pe_tup (pa_cons pe_str pa_nil)) pa_nil))))))
      (pss_cons (ps_expr (pe_m (pv 0) T.cl MT hr4 tkE (pa_cons (pe_tup (pa_cons pe_str pa_nil)) pa_nil)))
      (pss_cons (ps_set (i := 2) sc_whole.nd rfl (Or.inl rfl) (pe_lst pa_nil))
      (pss_cons (ps_while pwE (pt_cmpR op_eq (pe_ix ix_tup (pe_m (pv 0) T.cl ML hr3 tkE (pa_cons (pe_tup (pa_cons pe_str (pa_cons pe_str pa_nil))) pa_nil)) pe_int (fun _ _ => rfl)) pe_str (nomark _))
        (pss_one (ps_expr (pe_app (pv 2) (pe_m0 (pv 0) T.cl MR hr tkE)))))
      (pss_cons (ps_expr (pe_m (pv 0) T.cl MT hr4 tkE (pa_cons (pe_tup (pa_cons pe_str pa_nil)) pa_nil)))
      (pss_cons (ps_set (i := 3) sc_whole.nd rfl (Or.inl rfl) (pe_m (pv 0) T.cl MT hr4 tkE (pa_cons (pe_tup (pa_cons pe_str pa_nil)) pa_nil)))
      (pss_cons (ps_expr (pe_m (pv 0) T.cl MT hr4 tkE (pa_cons (pe_tup (pa_cons pe_str pa_nil)) pa_nil)))
      (pss_one (ps_ret (pe_tup (pa_cons (pv 1) (pa_cons (pv 2) (pa_cons (pv 3) pa_nil))))))))))))), ?_⟩
    have hlen := hG.1
    obtain ⟨k, e, ok, g⟩ := hG.get h0
    refine take1 rfl hP hT e ok (by decide +kernel) (looks_fit (s := .start) (by decide +kernel) e wish fun s' hs' nf a H1 b1 P1 ha => ⟨by show 1 ≤ sizeLine; decide, fun wl hw => ?_⟩)
    obtain ⟨hk, rfl⟩ := num_start _ _ hs'
    have kf : k.k ≠ .fin := fun z => by rw [hk] at z; cases z
    have sm1 := same_new (o := .lst [.ref a]) hw
    have ew1 : (upd H1 wl (.lst [.ref a])) wl = some (.lst [.ref a]) := upd_same
    have w0 : H wl = none := b1.free (fun z => by
      obtain ⟨_, _, _, hp⟩ := P1.ins
      rw [z, hp] at hw
      cases hw) hw
    generalize upd H1 wl (.lst [.ref a]) = H2 at sm1 ew1
    refine ⟨fun m σ H' => ∃ (n : Nat) (as : List Addr), σ = [some (.ref p), some (.ref wl), none, none] ∧ AtN (He.ga K "Parser") H H' p t b .start .widths ts wl n as ∧ m = ts.length - n,
      ⟨_, 1, [a], rfl, ⟨b1.same sm1, P1.same sm1, g.resolve_left kf, ew1, w0, fun x hx => ?_, Nat.le_refl _, run_go e hs' kf⟩, rfl⟩, ?_⟩
    · rw [List.mem_singleton.mp hx]
      exact ⟨k, sm1 _ _ ha, hk, ok⟩
    rintro m σ H' ⟨n, as, rfl, A, rfl⟩
    clear e ok g hs' nf kf hk
    obtain ⟨k, e, ok, g⟩ := hG.get A.le
    have T1 := hT.but A.bt hP.ins
    have w1 : Wish K E p H' (run b .widths (ts.drop n)) := by
      rw [← A.rn]
      exact wish.at A.bt
    refine look2 rfl A.par T1 e ok (by decide +kernel) (looks_fit (s := .widths) (by decide +kernel) e w1 fun s' hs' nf a H2 s2 ha => ?_)
    have ha' : H2 a = some (.tup [.str k.k.cls, .str k.w, .int (k.c : Int)]) := ha
    refine ⟨a, _, (0 : Nat), _, rfl, rfl, SqT.of ha', atI_nat rfl, rfl, _, rfl, ?_⟩
    rw [show decide (V.str k.k.cls = V.str (Str.ofString "number")) = decide (k.k = .num) from c_is _ (all_kds _)]
    have hal := A.al
    have hle := A.le
    have P2 := A.par.same s2
    have T2 := T1.same s2
    rcases num_widths _ _ hs' with ⟨hk, rfl⟩ | ⟨hk, rfl⟩
    · rw [decide_eq_true hk]
      have kf : k.k ≠ .fin := fun z => by rw [hk] at z; cases z
      refine iteT ⟨_, fun σ' H' q => q, _, rfl, .inl ⟨rfl, _, SqL.of (s2 _ _ A.fl)⟩, ?_⟩
      refine take1 rfl P2 T2 e ok (by decide +kernel) (looks_known (.inl kf) (by rw [hk]; decide +kernel) fun a3 H3 b3 P3 ha3 => ?_)
      obtain ⟨_, _, _, hp2⟩ := P2.ins
      refine ⟨wl, _, _, rfl, rfl, b3.lst hp2 _ _ (s2 _ _ A.fl), Evl.sz_lt (by rw [List.length_map]; omega), ?_⟩
      exact ⟨_, by omega, n + 1, as ++ [a3], rfl, A.put (s_thenBut s2 b3) P3 (g.resolve_left kf) (run_go e hs' kf) ha3 hk ok, rfl⟩
    · rw [decide_eq_false (by rw [hk]; decide)]
      have kf : k.k ≠ .fin := fun z => by rw [hk] at z; cases z
      refine iteF ?_
      refine take1 rfl P2 T2 e ok (by decide +kernel) (looks_known (.inl kf) (by rw [hk]; decide +kernel) fun a3 H3 b3 P3 ha3 => ⟨by show 0 ≤ sizeLine; decide, fun q hq => ?_⟩)
      have B := A.more (s_thenBut s2 b3) P3 (g.resolve_left kf) (run_go e hs' kf)
      have s4 := same_new (o := .lst []) hq
      have eq4 : (upd H3 q (.lst [])) q = some (.lst []) := upd_same
      have hqp : q ≠ p := fun z => by
        obtain ⟨_, _, _, hp⟩ := P3.ins
        rw [z, hp] at hq
        cases hq
      have q0 : H q = none := B.bt.free hqp hq
      have hwq : wl ≠ q := fun z => by
        rw [← z, B.fl] at hq
        cases hq
      generalize upd H3 q (.lst []) = H4 at s4 eq4
      refine ⟨fun m σ H' => ∃ (n : Nat) (rs : List Addr), σ = [some (.ref p), some (.ref wl), some (.ref q), none] ∧ AtR (He.ga K "Parser") H H' p t b .start .rules ts wl as q n rs ∧ m = ts.length - n,
        ⟨_, n + 1, [], rfl, ⟨B.bt.same s4, P3.same s4, B.le, s4 _ _ B.fl, fun x hx => (B.fs x hx).keep fun c u z => s4 _ _ z, by have := B.al; have := B.le; omega, eq4, q0, hwq, nofun, Nat.zero_le _, B.rn⟩, rfl⟩, ?_⟩
      clear e ok g hs' nf kf hk hal hle T1 w1 ha ha' P2 T2
      rintro m σ H5 ⟨n5, rs, rfl, R, rfl⟩
      obtain ⟨k, e, ok, g⟩ := hG.get R.le
      have T1 := hT.but R.bt hP.ins
      have w1 : Wish K E p H5 (run b .rules (ts.drop n5)) := by
        rw [← R.rn]
        exact wish.at R.bt
      refine look2 rfl R.par T1 e ok (by decide +kernel) (looks_fit (s := .rules) (by decide +kernel) e w1 fun s' hs' nf a H6 s6 ha => ?_)
      have ha' : H6 a = some (.tup [.str k.k.cls, .str k.w, .int (k.c : Int)]) := ha
      refine ⟨a, _, (0 : Nat), _, rfl, rfl, SqT.of ha', atI_nat rfl, rfl, _, rfl, ?_⟩
      rw [show decide (V.str k.k.cls = V.str (Str.ofString "number")) = decide (k.k = .num) from c_is _ (all_kds _)]
      have hal := R.al
      have hle := R.le
      have P6 := R.par.same s6
      have T6 := T1.same s6
      have R6 := R.more (s_but s6) P6 R.le (Nat.le_refl _) rfl
      have w6 : Wish K E p H6 (run b .rules (ts.drop n5)) := w1.at (s_but s6)
      obtain ⟨dx6, hp6⟩ := P6
      rcases num_rules _ _ hs' with ⟨hk, rfl⟩ | ⟨hk, rfl⟩
      · rw [decide_eq_true hk]
        refine iteT ⟨_, fun σ' H' q => q, _, rfl, .inl ⟨rfl, _, SqL.of R6.ql⟩, ?_⟩
        refine ⟨_, rfl, p, dx6, _, rfl, hp6, rfl, p, t, b, n5, ts, k, rfl, ⟨dx6, hp6⟩, T6, hG, e, hk, w6, fun r H7 n7 b7 P7 l1 l2 er hr7 => ?_⟩
        have R7 := R6.more b7 P7 l2 (Nat.le_of_lt l1) er
        refine ⟨q, _, _, rfl, rfl, R7.ql, Evl.sz_lt (by rw [List.length_map]; omega), ?_⟩
        refine ⟨_, by omega, n7, rs ++ [r], rfl, R7.put (hr7.keep (fun _ _ z => z) (fun _ _ _ z => z) fun c xs _ hc z => ?_) (by omega), rfl⟩
        rw [z, R6.ql] at hc
        cases hc
      · rw [decide_eq_false (by rw [hk]; decide)]
        have kf : k.k ≠ .fin := fun z => by rw [hk] at z; cases z
        refine iteF ?_
        refine take1 rfl R6.par T6 e ok (by decide +kernel) (looks_known (.inl kf) (by rw [hk]; decide +kernel) fun a7 H7 b7 P7 ha7 => ?_)
        have R7 := R6.more b7 P7 (g.resolve_left kf) (by omega) (run_go e hs' kf)
        clear e ok g hs' nf kf hk w1 w6
        obtain ⟨k, e, ok, g⟩ := hG.get R7.le
        have w7 : Wish K E p H7 (run b .rest (ts.drop (n5 + 1))) := by
          rw [← R7.rn]
          exact wish.at R7.bt
        refine take1 rfl P7 (hT.but R7.bt hP.ins) e ok (by decide +kernel) (looks_fit (s := .rest) (by decide +kernel) e w7 fun s' hs' nf a8 H8 b8 P8 ha8 => ?_)
        obtain ⟨hk, rfl⟩ := num_rest _ _ hs'
        have kf : k.k ≠ .fin := fun z => by rw [hk] at z; cases z
        have R8 := R7.more b8 P8 (g.resolve_left kf) (by omega) (run_go e hs' kf)
        obtain ⟨k9, e9, ok9, g9⟩ := hG.get R8.le
        have w8 : Wish K E p H8 (run b .done (ts.drop (n5 + 1 + 1))) := by
          rw [← R8.rn]
          exact wish.at R8.bt
        refine take1 rfl P8 (hT.but R8.bt hP.ins) e9 ok9 (by decide +kernel) (looks_fit (s := .done) (by decide +kernel) e9 w8 fun s9 hs9 nf9 a9 H9 b9 P9 ha9 => ?_)
        refine ⟨_, rfl, _, rfl, _, rfl, by show 3 ≤ sizeLine; decide, fun r hr0 => ?_⟩
        have s10 := same_new (o := .tup [.ref wl, .ref q, .ref a8]) hr0
        obtain ⟨_, _, _, hp8⟩ := P8.ins
        have bt : But p H8 (upd H9 r (.tup [.ref wl, .ref q, .ref a8])) := b9.same s10
        refine out (R8.rn.trans (run_end e9 (fin_done _ _ hs9) hs9 nf9)) r _ (R8.bt.trans bt) ⟨wl, q, a8, as, rs, upd_same, bt.lst hp8 _ _ R8.wl, fun x hx => (R8.ww x hx).keep (bt.tup hp8), bt.lst hp8 _ _ R8.ql, fun x hx => ?_, ⟨k, bt.tup hp8 _ _ ha8, hk, ok⟩, R8.wn, by omega⟩
        exact (R8.qs x hx).keep (bt.tup hp8) (fun c xs _ z => bt.lst hp8 _ _ z) fun _ _ _ _ => trivial
end
end K6

set_option Elab.async false
set_option linter.all false
set_option maxRecDepth 100000
set_option maxHeartbeats 4000000
set_option autoImplicit false
namespace K6
open PySem PySem.Spec PyProof.Rows L2
open TL (tl len_tl ext_tl)
/-! ### next_tokens -/
def LaidT (z : Str) (L : List Pc) (e : Nat) : Prop := z.length ≤ 400 ∧ tl z = L.flatMap pcs ++ List.replicate e 32 ∧ (∀ p ∈ L, PcOk p) ∧ Sep L
def res (b : Bool) (s0 : Sta) (L : List Pc) (e : Nat) : Res := match scanM 0 L e with
  | .inl ts => run b s0 ts
  | .inr x => .er x.1 x.2
def first (kd : Str) : Sta := if kd = "list" then .start else .row
theorem scan_good {e : Nat} : ∀ {L : List Pc} {n : Nat} {ts : List Tk}, (∀ p ∈ L, PcOk p) → scanM n L e = .inl ts → ts.length = L.length + 1 ∧ ∀ i k, ts[i]? = some k → TkOk k ∧ (k.k = .fin ∨ i + 1 < ts.length)
  | [], n, ts, _, h => by
    cases h
    refine ⟨rfl, fun i k e => ?_⟩
    cases i with
    | zero => cases e; exact ⟨.inr ⟨rfl, rfl⟩, .inl rfl⟩
    | succ i => simp at e
  | p :: r, n, ts, hp, h => by
    have hpc := hp p List.mem_cons_self
    rw [scanM] at h
    cases hb : bads.lookup p.2 with
    | some m =>
      rw [hb] at h
      cases h
    | none =>
      rw [hb] at h
      cases hs : scanM (n + p.1 + p.2.length) r e with
      | inr x =>
        rw [hs] at h
        cases h
      | inl us =>
        rw [hs] at h
        cases h
        obtain ⟨h1, h2⟩ := scan_good (fun q hq => hp q (List.mem_cons_of_mem _ hq)) hs
        refine ⟨by rw [List.length_cons, h1, List.length_cons], fun i k e => ?_⟩
        cases i with
        | zero =>
          cases e
          rcases hpc with hg | ⟨m, hm⟩
          · exact ⟨.inl (goods_facts _ hg).1, .inr (by rw [List.length_cons, h1]; omega)⟩
          · rw [(bads_facts _ hm).1] at hb
            cases hb
        | succ i =>
          obtain ⟨g1, g2⟩ := h2 i k (by simpa using e)
          refine ⟨g1, g2.imp id fun z => ?_⟩
          rw [List.length_cons]
          omega
theorem flat_len : ∀ {L : List Pc}, (∀ p ∈ L, PcOk p) → L.length ≤ (L.flatMap pcs).length
  | [], _ => Nat.zero_le _
  | p :: r, h => by
    have ih := flat_len fun q hq => h q (List.mem_cons_of_mem _ hq)
    obtain ⟨c, w, e⟩ := cons_of_ne (h p List.mem_cons_self).facts.1
    have e2 : (List.flatMap pcs (p :: r)).length = p.1 + (tl p.2).length + (r.flatMap pcs).length := by
      show ((List.replicate p.1 32 ++ tl p.2) ++ r.flatMap pcs).length = _
      simp only [List.length_append, List.length_replicate]
    rw [e2, e, List.length_cons, List.length_cons]
    omega
theorem LaidT.good {z : Str} {L : List Pc} {e : Nat} {ts : List Tk} (h : LaidT z L e) (hs : scanM 0 L e = .inl ts) : Good ts ∧ 0 < ts.length := by
  obtain ⟨h1, h2, h3, _⟩ := h
  obtain ⟨a, b⟩ := scan_good h3 hs
  have c := flat_len h3
  have d := congrArg List.length h2
  rw [← len_tl, List.length_append] at d
  exact ⟨⟨by omega, b⟩, by omega⟩
/-- the wishes about what comes -/
def Comes (K : PySem.W.Frag) (E : XK) (H : Hp) (r : Res) (back : List Str → Prop) (fine : Prop) : Prop := match r with
  | .ah os => back os
  | .er c x => RTE K E H (c : Int) x
  | .ok => fine
def spNext (K : PySem.W.Frag) : Sp := fun vs H Q E => ∃ (z kd : Str) (L : List Pc) (e : Nat), vs = [.str z, .str kd] ∧ (kd = "list" ∨ kd = "row") ∧ LaidT z L e ∧
  Comes K E H (res true (first kd) L e) (fun os => ∀ q H', Same H H' → H' q = some (.lst (os.map V.str)) → Q (.ref q) H') (∀ q H', Same H H' → H' q = some (.lst []) → Q (.ref q) H')
section
variable {P : Program} {w : World} {K : PySem.W.Frag} {mg : Str → Option Value} {base : Heap}
theorem sc_next : FnScope ["text", "kind", "parser", "ahead"] ["text", "kind"] (defScope s_next_tokens) := ⟨rfl, rfl, rfl, by decide +kernel, rfl, by decide +kernel, by decide +kernel⟩
theorem ok_next (T : Tx K mg) : Df P w K mg base 7 "next_tokens" ["text", "kind"] (spNext K) := by
  have DK : Df P w K mg base 1 "check_text" ["text"] spCheck := ok_check T
  have DS : Df P w K mg base 4 "scan" ["text"] (spScan K) := ok_scan T
  have MW : Mf P w K mg base 6 (He.ga K "Parser") "whole" ["self"] (spWalk WholeAt .start K (He.ga K "Parser")) := ok_whole T
  have MN : Mf P w K mg base 5 (He.ga K "Parser") "numbers" ["self"] (spWalk NumsAt .row K (He.ga K "Parser")) := ok_nums T
  obtain ⟨fdP, FP, bP⟩ := ok_par (P := P) (w := w) (base := base) T
  refine df_mk T.g_next_tokens T.d_next_tokens sc_next (fun vs H Q E h => ?_) (fun _ _ _ _ _ _ us hl => match us, hl with | [_, _], _ => rfl) (fun cdv A outer s H vs Q E hr h => ?_)
  · obtain ⟨z, kd, L, e, rfl, _⟩ := h
    rfl
  · obtain ⟨z, kd, L, e, rfl, hkd, hL, k⟩ := h
    have hr1 : Room 1 _ := hr.mono (by decide)
    have hr2 : Room 2 _ := hr.mono (by decide)
    have hr4 : Room 4 _ := hr.mono (by decide)
    have hr5 : Room 5 _ := hr.mono (by decide)
    refine ⟨_, pss_cons (ps_expr (pe_d DK hr1 takes0 (pa_cons (pv 0) pa_nil)))
      (pss_cons (ps_if (PW.pt (pw_or (pt_not (pt_val (pe_isi (n := "str") T (pv 1) T.b_str (by decide +kernel)))) (pw_or1 (pt_cmpR op_notIn_seq (pv 1) (pe_gr T.g_KINDS) rfl)))) pss_never pss_nil)
      (pss_cons (ps_set (i := 2) sc_next.nd rfl (Or.inl rfl) (pe_make T.mk_ FP hr2 rfl T.g_Parser bP .nil passL (pa_cons (pe_d DS hr4 tkE (pa_cons (pv 0) pa_nil)) (pa_cons pe_bl pa_nil))))
      (pss_cons (ps_try_as (i := 3) (tb := fun W => tIfS (tTest (tOp rEq (tVar 1) (tC (.str "list")))) (tDrop (tMS0 (He.ga K "Parser") "whole" (spWalk WholeAt .start K (He.ga K "Parser")) W (tVar 2)))
          (tDrop (tMS0 (He.ga K "Parser") "numbers" (spWalk NumsAt .row K (He.ga K "Parser")) W (tVar 2))))
          (ts := fun a cls d => tRet (tXf a cls d (He.ga K "Ahead") "options" (tVar 3))) rfl rfl sc_next.nd rfl rfl ⟨rfl, by decide, Or.inl T.g_Ahead⟩ tkE
          (fun W pn xe tk _ => pss_one (ps_if (pt_cmpR op_eq (pv 1) pe_str (nomark _)) (pss_one (ps_expr (pe_m0 (pv 2) T.cl MW hr tk))) (pss_one (ps_expr (pe_m0 (pv 2) T.cl MN hr5 tk)))))
          (fun a oe cls d pn hz hf => pss_one (ps_ret (pe_xf T.ah.f T.n_options hz hf (pv 3)))))
      (pss_one (ps_ret (pe_lst pa_nil)))))), ?_⟩
    obtain ⟨h1, h2, h3, h4⟩ := id hL
    have h10 : 10 ∉ tl z := by
      rw [h2]
      intro q
      rcases List.mem_append.mp q with q | q
      · exact flat_no h3 q
      · exact absurd (List.mem_replicate.mp q).2 (by decide)
    refine ⟨_, rfl, z, rfl, h1, h10, ?_⟩
    refine ⟨_, rfl, _, _, _, _, true, rfl, .ty _, .base (.str kd), kit_ty (by decide +kernel), _, rfl, iteF ?_⟩
    have ein : inV (.str kd) [.str "list", .str "row"] = true := by
      rcases hkd with rfl | rfl <;> decide +kernel
    refine ⟨_, rfl, _, _, rfl, .inr (T.t_KINDS _), rfl, rfl, _, rfl, ?_⟩
    rw [if_pos rfl, ein]
    refine iteF ⟨_, rfl, z, L, e, rfl, h1, h2, h3, h4, ?_⟩
    unfold res at k
    cases hs : scanM 0 L e with
    | inr x =>
      rw [hs] at k
      exact k
    | inl ts =>
      rw [hs] at k
      obtain ⟨hG, h0⟩ := hL.good hs
      intro t H1 s1 ht p dx hp hdx hne
      have s2 : Same H1 (upd (upd H1 dx (.own p)) p (.ins (He.ga K "Parser") dx [])) := (same_new hdx).trans (same_new (by rw [upd_ne hne.symm]; exact hp))
      have ep : (upd (upd H1 dx (.own p)) p (.ins (He.ga K "Parser") dx [])) p = some (.ins (He.ga K "Parser") dx []) := upd_same
      generalize upd (upd H1 dx (.own p)) p (.ins (He.ga K "Parser") dx []) = H2 at s2 ep
      refine ⟨p, dx, t, true, rfl, ep, fun H3 b3 P3 => ⟨rfl, ?_⟩⟩
      have s3 : Same H1 H3 := But.fresh (q := p) s2 hp b3
      have s03 := s1.trans s3
      have p0 : H p = none := s1.free hp
      have T3 : TksAt H3 t ts := ht.same s3
      obtain ⟨dx3, hp3⟩ := P3
      have sbut : ∀ H4, But p H3 H4 → Same H H4 := fun H4 b4 => But.fresh (q := p) s03 p0 b4
      have wishW : ∀ (r : Res), Comes K E H r (fun os => ∀ q H', Same H H' → H' q = some (.lst (os.map V.str)) → Q (.ref q) H') (∀ q H', Same H H' → H' q = some (.lst []) → Q (.ref q) H') →
          ∀ (D : Ends) (W0 : WX) (σ : L2.St), D.rt = Q → (∀ cls d σ H', W0 cls d σ H' = E cls d H') → Wish K (WE (wAs K (.ref (He.ga K "Ahead")) 3 (fun a cls d => tRet (tXf a cls d (He.ga K "Ahead") "options" (tVar 3))) W0 D) [some (.str z), some (.str kd), some (.ref p), none]) p H3 r := by
        intro r k D W0 σ hD hW
        cases r with
        | ah os =>
          intro H4 b4 d q H5 s5 hd hq
          refine ⟨true, T.x_Ahead_Ahead, fun _ a ha => ⟨_, rfl, rfl, rfl, d, _, _, rfl, hd, rfl, ?_⟩, nofun⟩
          show D.rt _ _
          rw [hD]
          exact k q H5 ((sbut _ b4).trans s5) hq
        | er c x =>
          intro H4 b4 d H5 s5 hd
          refine ⟨false, T.x_TextError_Ahead, nofun, fun _ => ?_⟩
          rw [hW]
          exact k d H5 ((sbut _ b4).trans s5) hd
        | ok => trivial
      have okE : ∀ s0, run true s0 ts = .ok → Comes K E H (run true s0 ts) (fun os => ∀ q H', Same H H' → H' q = some (.lst (os.map V.str)) → Q (.ref q) H') (∀ q H', Same H H' → H' q = some (.lst []) → Q (.ref q) H') → ∀ q H', Same H H' → H' q = some (.lst []) → Q (.ref q) H' := fun s0 h k => by
        rw [h] at k
        exact k
      refine ⟨_, rfl, rfl, _, rfl, ?_⟩
      rcases hkd with rfl | rfl
      · rw [decide_eq_true rfl]
        refine iteT ⟨_, rfl, p, dx3, _, rfl, hp3, rfl, p, t, true, ts, rfl, ⟨dx3, hp3⟩, T3, hG, h0, wishW _ k _ _ [] rfl (fun _ _ _ _ => rfl), fun ho r H4 b4 _ => ⟨by show 0 ≤ sizeLine; decide, fun q hq => ?_⟩⟩
        exact okE _ ho k q _ ((sbut _ b4).trans (same_new hq)) upd_same
      · rw [decide_eq_false (by decide +kernel)]
        refine iteF ⟨_, rfl, p, dx3, _, rfl, hp3, rfl, p, t, true, ts, rfl, ⟨dx3, hp3⟩, T3, hG, h0, wishW _ k _ _ [] rfl (fun _ _ _ _ => rfl), fun ho r H4 b4 _ => ⟨by show 0 ≤ sizeLine; decide, fun q hq => ?_⟩⟩
        exact okE _ ho k q _ ((sbut _ b4).trans (same_new hq)) upd_same
end
end K6

set_option Elab.async false
set_option linter.all false
set_option maxRecDepth 100000
set_option maxHeartbeats 4000000
set_option autoImplicit false
namespace K6
open PySem PySem.Spec PyProof.Rows L2
open TL (tl len_tl ext_tl)
/-! ### the readers' parts: they return, or they tell mildly -/
/-- not of what is expected -/
def Mild (x : Str) : Prop := x.length ≤ 100 ∧ cutS x none (some (9 : Int)) ≠ "expected "
instance decMild (x : Str) : Decidable (Mild x) := by
  unfold Mild
  infer_instance
def Milds (K : PySem.W.Frag) (E : XK) (H : Hp) : Prop := ∀ (c : Int) (x : Str), Mild x → RTE K E H c x
theorem Milds.same {K : PySem.W.Frag} {E : XK} {H H1 : Hp} (h : Milds K E H) (e : Same H H1) : Milds K E H1 := fun c x m => (h c x m).same e
def vN (x : Str) : Int := (intText? x).getD 0
theorem nums_int : ∀ x ∈ nums, intText? x = some (vN x) ∧ x.length ≤ 640 := by decide +kernel
def rIntS : List V → Hp → VK → Prop := fun xs H Q => ∃ a n, xs = [.str a] ∧ PySem.intText? a = some n ∧ a.length ≤ 640 ∧ Q (.int n) H
theorem pe_intS {X : Cx} {e : Expr} {te : TE} {p pos : Pos} (T : Tx X.K X.mg) (he : PE X e te) (hg : Gl X "int" := by rfl) (h1 : starEach (e :: []) X.env = (false, eval e X.env) :: starEach [] X.env := by rfl)
    (h2 : (backTo pos (starEach [] X.env)).any (·.1) = false := by rfl) : PE X (.Call (.Name "int" p) [e] [] pos) (tCB rIntS (tCons te tNil)) :=
  pe_callTy call_int_str hg T.b_int (by decide +kernel) (pa_cons he pa_nil h1) (by decide) (by decide) h1 h2
theorem NumAt.get {H : Hp} {a : Addr} (h : NumAt H a) : ∃ (c : Str) (x : Str) (n : Int), H a = some (.tup [.str c, .str x, .int n]) ∧ intText? x = some (vN x) ∧ x.length ≤ 640 := by
  obtain ⟨k, h1, h2, h3⟩ := h
  rcases h3 with (⟨_, h3⟩ | ⟨h3, _⟩) | ⟨h3, _⟩
  · exact ⟨_, _, _, h1, nums_int _ h3⟩
  · exact absurd h2 h3
  · rw [h2] at h3
    cases h3
theorem NumAt.same {H H' : Hp} {a : Addr} (h : NumAt H a) (e : Same H H') : NumAt H' a := h.keep fun c u z => e _ _ z
theorem FldAt.same {H H' : Hp} {a : Addr} (h : FldAt H a) (e : Same H H') : FldAt H' a := h.keep (fun c u z => e _ _ z) fun o z => e _ _ z
theorem RuleAt.same {N : Addr → Prop} {H H' : Hp} {a : Addr} (h : RuleAt N H a) (e : Same H H') : RuleAt N H' a := h.keep (fun c u z => e _ _ z) (fun c u _ z => e _ _ z) fun _ _ _ z => z
def spAction (K : PySem.W.Frag) : Sp := fun vs H Q E => ∃ a : Addr, vs = [.ref a] ∧ NumAt H a ∧ Milds K E H ∧ ∀ i : Int, Q (.int i) H
def spValue (K : PySem.W.Frag) : Sp := fun vs H Q E => ∃ (a : Addr) (wd : Int), vs = [.ref a, .int wd] ∧ NumAt H a ∧ Milds K E H ∧ ∀ i : Int, Q (.int i) H
def spRange (K : PySem.W.Frag) : Sp := fun vs H Q E => ∃ (f : Addr) (wd : Int), vs = [.ref f, .int wd] ∧ FldAt H f ∧ Milds K E H ∧ ∀ p H', Same H H' → Q (.ref p) H'
def spRuleOf (K : PySem.W.Frag) : Sp := fun vs H Q E => ∃ (r wp : Addr) (is : List Int), vs = [.ref r, .ref wp] ∧ RuleAt (fun _ => True) H r ∧ SqT K H wp (is.map V.int) ∧ Milds K E H ∧ ∀ p H', Same H H' → Q (.ref p) H'
def spWidths (K : PySem.W.Frag) : Sp := fun vs H Q E => ∃ (t : Addr) (ws : List Addr), vs = [.ref t] ∧ H t = some (.lst (ws.map V.ref)) ∧ (∀ x ∈ ws, NumAt H x) ∧ Milds K E H ∧ ∀ p H' (is : List Int), Same H H' → SqT K H' p (is.map V.int) → Q (.ref p) H'
section
variable {P : Program} {w : World} {K : PySem.W.Frag} {mg : Str → Option Value} {base : Heap}
theorem sc_action : FnScope ["token"] ["token"] (defScope s_action_of) := ⟨rfl, rfl, rfl, by decide +kernel, rfl, by decide +kernel, by decide +kernel⟩
theorem ok_action (T : Tx K mg) : Df P w K mg base 3 "action_of" ["token"] (spAction K) := by
  refine df_mk T.g_action_of T.d_action_of sc_action (fun vs H Q E h => ?_) (fun _ _ _ _ _ _ us hl => match us, hl with | [_], _ => rfl) (fun cdv A outer s H vs Q E hr h => ?_)
  · obtain ⟨a, rfl, _⟩ := h
    rfl
  · obtain ⟨a, rfl, ha, hm, k⟩ := h
    obtain ⟨c, x, n, ha, hi, hl⟩ := ha.get
    refine ⟨_, pss_cons (ps_if (pt_cmpR op_gt (pe_intS T (pe_ix ix_tup (pv 0) pe_int (fun _ _ => rfl))) (pe_gi T.i_LAST_ACTION) (nomark _))
        (pss_one (ps_te T rfl hr tkE (pa_cons (pe_ix ix_tup (pv 0) pe_int (fun _ _ => rfl)) (pa_cons pe_str pa_nil)))) pss_nil)
      (pss_one (ps_ret (pe_intS T (pe_ix ix_tup (pv 0) pe_int (fun _ _ => rfl))))), ?_⟩
    refine ⟨_, rfl, a, _, (1 : Nat), _, rfl, rfl, SqT.of ha, atI_nat rfl, x, _, rfl, hi, hl, _, _, rfl, rfl, _, rfl, ?_⟩
    by_cases h5 : (5 : Int) < vN x
    · rw [decide_eq_true h5]
      exact iteT ⟨_, rfl, a, _, (2 : Nat), _, rfl, rfl, SqT.of ha, atI_nat rfl, te_go rfl (hm _ _ (by decide +kernel))⟩
    · rw [decide_eq_false h5]
      exact iteF ⟨_, rfl, a, _, (1 : Nat), _, rfl, rfl, SqT.of ha, atI_nat rfl, x, _, rfl, hi, hl, k _⟩
theorem sc_value : FnScope ["token", "width"] ["token", "width"] (defScope s_value_of) := ⟨rfl, rfl, rfl, by decide +kernel, rfl, by decide +kernel, by decide +kernel⟩
theorem ok_value (T : Tx K mg) : Df P w K mg base 3 "value_of" ["token", "width"] (spValue K) := by
  refine df_mk T.g_value_of T.d_value_of sc_value (fun vs H Q E h => ?_) (fun _ _ _ _ _ _ us hl => match us, hl with | [_, _], _ => rfl) (fun cdv A outer s H vs Q E hr h => ?_)
  · obtain ⟨a, wd, rfl, _⟩ := h
    rfl
  · obtain ⟨a, wd, rfl, ha, hm, k⟩ := h
    obtain ⟨c, x, n, ha, hi, hl⟩ := ha.get
    refine ⟨_, pss_cons (ps_if (pt_cmpR op_ge (pe_intS T (pe_ix ix_tup (pv 0) pe_int (fun _ _ => rfl))) (pv 1) (nomark _))
        (pss_one (ps_te T rfl hr tkE (pa_cons (pe_ix ix_tup (pv 0) pe_int (fun _ _ => rfl)) (pa_cons pe_str pa_nil)))) pss_nil)
      (pss_one (ps_ret (pe_intS T (pe_ix ix_tup (pv 0) pe_int (fun _ _ => rfl))))), ?_⟩
    refine ⟨_, rfl, a, _, (1 : Nat), _, rfl, rfl, SqT.of ha, atI_nat rfl, x, _, rfl, hi, hl, _, rfl, _, _, rfl, rfl, _, rfl, ?_⟩
    by_cases h5 : wd ≤ vN x
    · rw [decide_eq_true h5]
      exact iteT ⟨_, rfl, a, _, (2 : Nat), _, rfl, rfl, SqT.of ha, atI_nat rfl, te_go rfl (hm _ _ (by decide +kernel))⟩
    · rw [decide_eq_false h5]
      exact iteF ⟨_, rfl, a, _, (1 : Nat), _, rfl, rfl, SqT.of ha, atI_nat rfl, x, _, rfl, hi, hl, k _⟩
theorem sc_range : FnScope ["tokens", "width", "low", "high"] ["tokens", "width"] (defScope s_range_of) := ⟨rfl, rfl, rfl, by decide +kernel, rfl, by decide +kernel, by decide +kernel⟩
theorem ok_range (T : Tx K mg) : Df P w K mg base 4 "range_of" ["tokens", "width"] (spRange K) := by
  have DV : Df P w K mg base 3 "value_of" ["token", "width"] (spValue K) := ok_value T
  refine df_mk T.g_range_of T.d_range_of sc_range (fun vs H Q E h => ?_) (fun _ _ _ _ _ _ us hl => match us, hl with | [_, _], _ => rfl) (fun cdv A outer s H vs Q E hr h => ?_)
  · obtain ⟨f, wd, rfl, _⟩ := h
    rfl
  · obtain ⟨f, wd, rfl, hf, hm, k⟩ := h
    have hr2 : Room 2 _ := hr.mono (by decide)
    refine ⟨_, pss_cons (ps_if (pt_cmpR op_eq (pe_ix ix_tup (pe_ix ix_list (pv 0) pe_int (fun _ _ => rfl)) pe_int (fun _ _ => rfl)) pe_str (nomark _))
        (pss_one (ps_ret (pe_tup (pa_cons pe_int (pa_cons (pe_op op_sub (pv 1) pe_int) pa_nil))))) pss_nil)
      (pss_cons (ps_set (i := 2) sc_range.nd rfl (Or.inl rfl) (pe_d DV hr tkE (pa_cons (pe_ix ix_list (pv 0) pe_int (fun _ _ => rfl)) (pa_cons (pv 1) pa_nil))))
      (pss_cons (ps_set (i := 3) sc_range.nd rfl (Or.inl rfl) (pe_d DV hr tkE (pa_cons (pe_ix ix_list (pv 0) (pe_un un_neg pe_int) (fun _ _ => rfl)) (pa_cons (pv 1) pa_nil))))
      (pss_cons (ps_if (pt_cmpR op_lt (pv 3) (pv 2) (nomark _))
        (pss_one (ps_te T rfl hr2 tkE (pa_cons (pe_ix ix_tup (pe_ix ix_list (pv 0) (pe_un un_neg pe_int) (fun _ _ => rfl)) pe_int (fun _ _ => rfl)) (pa_cons pe_str pa_nil)))) pss_nil)
      (pss_one (ps_ret (pe_tup (pa_cons (pv 2) (pa_cons (pv 3) pa_nil)))))))), ?_⟩
    -- the first and the last
    obtain ⟨x, y, xs, hx, kx, e0, e1⟩ : ∃ (x y : Addr) (xs : List V), H f = some (.lst xs) ∧ (∃ kx : Tk, H x = some kx.ho ∧ TkOk kx ∧ (kx.k ≠ .sta → NumAt H x ∧ NumAt H y)) ∧ xs[0]? = some (.ref x) ∧ atI xs (-1) = some (.ref y) := by
      rcases hf with ⟨x, kx, h1, h2, h3, h4⟩ | ⟨x, y, h1, ⟨kx, h2, h3, h4⟩, h5⟩
      · exact ⟨x, x, _, h1, ⟨kx, h2, h3, fun z => by
          have hn : NumAt H x := ⟨kx, h2, h4.resolve_right z, h3⟩
          exact ⟨hn, hn⟩⟩, rfl, rfl⟩
      · exact ⟨x, y, _, h1, ⟨kx, h2, h4, fun _ => ⟨⟨kx, h2, h3, h4⟩, h5⟩⟩, rfl, rfl⟩
    obtain ⟨kx, hk, okx, hnn⟩ := kx
    have hk' : H x = some (.tup [.str kx.k.cls, .str kx.w, .int (kx.c : Int)]) := hk
    refine ⟨_, rfl, f, _, (0 : Nat), _, rfl, rfl, SqL.of hx, atI_nat e0, x, _, (1 : Nat), _, rfl, rfl, SqT.of hk', atI_nat rfl, rfl, _, rfl, ?_⟩
    rw [show decide (V.str kx.w = V.str (Str.ofString "*")) = decide (kx.k = .sta) from w_is (c := .sta) okx (by decide) (by decide)]
    by_cases hs : kx.k = .sta
    · rw [decide_eq_true hs]
      exact iteT ⟨_, rfl, _, _, rfl, rfl, by show 2 ≤ sizeLine; decide, fun p hp => k p _ (same_new hp)⟩
    · rw [decide_eq_false hs]
      obtain ⟨hnx, hny⟩ := hnn hs
      obtain ⟨c, w, n, hy, _⟩ := hny.get
      refine iteF ⟨_, rfl, f, _, (0 : Nat), _, rfl, rfl, SqL.of hx, atI_nat e0, _, rfl, x, wd, rfl, hnx, hm, fun i => ?_⟩
      refine ⟨_, rfl, 1, rfl, f, _, _, _, rfl, rfl, SqL.of hx, e1, _, rfl, y, wd, rfl, hny, hm, fun j => ?_⟩
      refine ⟨_, rfl, _, rfl, _, _, rfl, rfl, _, rfl, ?_⟩
      by_cases hlt : j < i
      · rw [decide_eq_true hlt]
        exact iteT ⟨_, rfl, 1, rfl, f, _, _, _, rfl, rfl, SqL.of hx, e1, y, _, (2 : Nat), _, rfl, rfl, SqT.of hy, atI_nat rfl, te_go rfl (hm _ _ (by decide +kernel))⟩
      · rw [decide_eq_false hlt]
        exact iteF ⟨_, rfl, _, rfl, by show 2 ≤ sizeLine; decide, fun p hp => k p _ (same_new hp)⟩
end
end K6

set_option Elab.async false
set_option linter.all false
set_option maxRecDepth 100000
set_option maxHeartbeats 4000000
set_option autoImplicit false
namespace K6
open PySem PySem.Spec PyProof.Rows L2
open TL (tl len_tl ext_tl)
/-! ### widths_of, rule_of -/
theorem map_at {α : Type} {f : α → V} {xs : List α} {i : Nat} {v : V} (h : (xs.map f)[i]? = some v) : ∃ x, xs[i]? = some x ∧ v = f x ∧ x ∈ xs := by
  rw [List.getElem?_map] at h
  cases e : xs[i]? with
  | none =>
    rw [e] at h
    cases h
  | some x =>
    rw [e] at h
    exact ⟨x, rfl, (Option.some.inj h).symm, List.mem_of_getElem? e⟩
def rTupO (K : PySem.W.Frag) : List V → Hp → VK → Prop := fun xs H Q => ∃ p ys, xs = [.ref p] ∧ ((SqL K H p ys ∧ ∀ l, H l = none → Q (.ref l) (upd H l (.tup ys))) ∨ (SqT K H p ys ∧ Q (.ref p) H))
theorem pe_tupO {X : Cx} {e : Expr} {te : TE} {p pos : Pos} (T : Tx X.K X.mg) (he : PE X e te) (hg : Gl X "tuple" := by rfl) (h1 : starEach (e :: []) X.env = (false, eval e X.env) :: starEach [] X.env := by rfl)
    (h2 : (backTo pos (starEach [] X.env)).any (·.1) = false := by rfl) : PE X (.Call (.Name "tuple" p) [e] [] pos) (tCB (rTupO X.K) (tCons te tNil)) :=
  pe_callTy call_tuple_of hg T.b_tuple (by decide +kernel) (pa_cons he pa_nil h1) (by decide) (by decide) h1 h2
section
variable {P : Program} {w : World} {K : PySem.W.Frag} {mg : Str → Option Value} {base : Heap}
theorem sc_widths : FnScope ["tokens", "found", "token"] ["tokens"] (defScope s_widths_of) := ⟨rfl, rfl, rfl, by decide +kernel, rfl, by decide +kernel, by decide +kernel⟩
theorem ok_widths (T : Tx K mg) : Df P w K mg base 3 "widths_of" ["tokens"] (spWidths K) := by
  refine df_mk T.g_widths_of T.d_widths_of sc_widths (fun vs H Q E h => ?_) (fun _ _ _ _ _ _ us hl => match us, hl with | [_], _ => rfl) (fun cdv A outer s H vs Q E hr h => ?_)
  · obtain ⟨t, ws, rfl, _⟩ := h
    rfl
  · obtain ⟨t, ws, rfl, ht, hw, hm, k⟩ := h
    refine ⟨_, pss_cons (ps_set (i := 1) sc_widths.nd rfl (Or.inl rfl) (pe_lst pa_nil))
      (pss_cons (ps_for pwE rfl (pi_list (pv 0)) (pg_name (i := 2) sc_widths.nd rfl (Or.inl rfl))
        (pss_cons (ps_if (pt_cmpR op_eq (pe_lenQ T (pv 1)) (pe_gi T.i_MOST_FIELDS) (nomark _))
          (pss_one (ps_te T rfl hr tkE (pa_cons (pe_ix ix_tup (pv 2) pe_int (fun _ _ => rfl)) (pa_cons pe_str pa_nil)))) pss_nil)
        (pss_cons (ps_if (pt_not (pt_chain op_le op_le pe_int (pe_intS T (pe_ix ix_tup (pv 2) pe_int (fun _ _ => rfl))) (pe_gi T.i_MOST_WIDTH)))
          (pss_one (ps_te T rfl hr tkE (pa_cons (pe_ix ix_tup (pv 2) pe_int (fun _ _ => rfl)) (pa_cons pe_str pa_nil)))) pss_nil)
        (pss_one (ps_expr (pe_app (pv 1) (pe_intS T (pe_ix ix_tup (pv 2) pe_int (fun _ _ => rfl)))))))))
      (pss_one (ps_ret (pe_tupO T (pv 1))))), ?_⟩
    refine ⟨by show 0 ≤ sizeLine; decide, fun F hF => ?_⟩
    have s0 : Same H (upd H F (.lst [])) := same_new hF
    have e0 : (upd H F (.lst [])) F = some (.lst (([] : List Int).map V.int)) := upd_same
    generalize upd H F (.lst []) = H0 at s0 e0
    refine ⟨_, rfl, t, rfl, ⟨_, SqL.of (s0 _ _ ht)⟩, for_list (K := K) (xs := ws.map V.ref) (fun i σ H' => ∃ (v : Option V) (is : List Int), σ = [some (.ref t), some (.ref F), v] ∧ Same H H' ∧ H' F = some (.lst (is.map V.int)) ∧ is.length = i ∧ i ≤ 3)
      ⟨none, [], rfl, s0, e0, rfl, by decide⟩ (fun i σ H' _ ⟨_, _, _, sm, _⟩ => SqL.of (sm _ _ ht)) ?_ ?_⟩
    · rintro i y σ H' hi ⟨v, is, rfl, sm, hl, hlen, hi3⟩
      obtain ⟨a, _, rfl, ha⟩ := map_at hi
      obtain ⟨c, x, n, ea, hx, hx2⟩ := ((hw a ha).same sm).get
      refine ⟨_, rfl, F, _, rfl, .inl (SqL.of hl), rfl, _, rfl, ?_⟩
      by_cases h3 : i = 3
      · rw [decide_eq_true (by rw [List.length_map, hlen, h3]; rfl)]
        exact iteT ⟨_, rfl, a, _, (2 : Nat), _, rfl, rfl, SqT.of ea, atI_nat rfl, te_go rfl ((hm.same sm) _ _ (by decide +kernel))⟩
      · rw [decide_eq_false (fun z => by
          have z2 := V.int.inj z
          rw [List.length_map, hlen] at z2
          omega)]
        refine iteF ⟨_, rfl, a, _, (1 : Nat), _, rfl, rfl, SqT.of ea, atI_nat rfl, x, _, rfl, hx, hx2, _, _, rfl, rfl, _, rfl, ?_⟩
        by_cases h1 : (1 : Int) ≤ vN x
        · rw [decide_eq_true h1]
          refine iteT ⟨_, _, rfl, rfl, _, rfl, ?_⟩
          by_cases h8 : vN x ≤ (8 : Int)
          · rw [decide_eq_true h8]
            refine iteF ⟨_, rfl, .inl ⟨rfl, _, SqL.of hl⟩, _, rfl, a, _, (1 : Nat), _, rfl, rfl, SqT.of ea, atI_nat rfl, x, _, rfl, hx, hx2, F, _, _, rfl, rfl, hl, Evl.sz_lt (by rw [List.length_map]; omega), ?_⟩
            refine ⟨_, is ++ [vN x], rfl, s_mut sm hF, by rw [upd_same, List.map_append]; rfl, by rw [List.length_append, hlen]; rfl, by omega⟩
          · rw [decide_eq_false h8]
            exact iteT ⟨_, rfl, a, _, (2 : Nat), _, rfl, rfl, SqT.of ea, atI_nat rfl, te_go rfl ((hm.same sm) _ _ (by decide +kernel))⟩
        · rw [decide_eq_false h1]
          exact iteF ⟨_, rfl, iteT ⟨_, rfl, a, _, (2 : Nat), _, rfl, rfl, SqT.of ea, atI_nat rfl, te_go rfl ((hm.same sm) _ _ (by decide +kernel))⟩⟩
    · rintro σ H' ⟨v, is, rfl, sm, hl, hlen, hi3⟩
      exact ⟨_, rfl, F, _, rfl, .inl ⟨SqL.of hl, fun p hp => k p _ is (sm.trans (same_new hp)) (SqT.of upd_same)⟩⟩
theorem FldAt.fst {H : Hp} {f : Addr} (h : FldAt H f) : ∃ (x : Addr) (xs : List V) (c w : Str) (n : Int), H f = some (.lst (.ref x :: xs)) ∧ H x = some (.tup [.str c, .str w, .int n]) := by
  rcases h with ⟨x, k, h1, h2, _⟩ | ⟨x, y, h1, ⟨k, h2, _⟩, _⟩
  · exact ⟨x, _, _, _, _, h1, h2⟩
  · exact ⟨x, _, _, _, _, h1, h2⟩
theorem sc_ruleof : FnScope ["rule", "widths", "action", "found", "tokens"] ["rule", "widths"] (defScope s_rule_of) := ⟨rfl, rfl, rfl, by decide +kernel, rfl, by decide +kernel, by decide +kernel⟩
theorem ok_ruleof (T : Tx K mg) : Df P w K mg base 5 "rule_of" ["rule", "widths"] (spRuleOf K) := by
  have DA : Df P w K mg base 3 "action_of" ["token"] (spAction K) := ok_action T
  have DR : Df P w K mg base 4 "range_of" ["tokens", "width"] (spRange K) := ok_range T
  refine df_mk T.g_rule_of T.d_rule_of sc_ruleof (fun vs H Q E h => ?_) (fun _ _ _ _ _ _ us hl => match us, hl with | [_, _], _ => rfl) (fun cdv A outer s H vs Q E hr h => ?_)
  · obtain ⟨r, wp, is, rfl, _⟩ := h
    rfl
  · obtain ⟨r, wp, is, rfl, ⟨a, f, e, as, h1, h2, h3, _, h5, ⟨ke, h6⟩, h7⟩, hwp, hm, k⟩ := h
    have hr2 : Room 2 _ := hr.mono (by decide)
    have hr3 : Room 3 _ := hr.mono (by decide)
    refine ⟨_, pss_cons (ps_set (i := 2) sc_ruleof.nd rfl (Or.inl rfl) (pe_d DA hr3 tkE (pa_cons (pe_ix ix_tup (pv 0) pe_int (fun _ _ => rfl)) pa_nil)))
      (pss_cons (ps_set (i := 3) sc_ruleof.nd rfl (Or.inl rfl) (pe_lst pa_nil))
      (pss_cons (ps_for pwE rfl (pi_list (pe_ix ix_tup (pv 0) pe_int (fun _ _ => rfl))) (pg_name (i := 4) sc_ruleof.nd rfl (Or.inl rfl))
        (pss_cons (ps_if (pt_cmpR op_eq (pe_lenQ T (pv 3)) (pe_lenQ T (pv 1)) (nomark _))
          (pss_one (ps_te T rfl hr2 tkE (pa_cons (pe_ix ix_tup (pe_ix ix_list (pv 4) pe_int (fun _ _ => rfl)) pe_int (fun _ _ => rfl)) (pa_cons pe_str pa_nil)))) pss_nil)
        (pss_one (ps_expr (pe_app (pv 3) (pe_d DR hr tkE (pa_cons (pv 4) (pa_cons (pe_ix ix_tup (pv 1) (pe_lenQ T (pv 3)) (fun _ _ => rfl)) pa_nil))))))))
      (pss_cons (ps_if (pt_cmpR op_lt (pe_lenQ T (pv 3)) (pe_lenQ T (pv 1)) (nomark _))
        (pss_one (ps_te T rfl hr2 tkE (pa_cons (pe_ix ix_tup (pe_ix ix_tup (pv 0) pe_int (fun _ _ => rfl)) pe_int (fun _ _ => rfl)) (pa_cons pe_str pa_nil)))) pss_nil)
      (pss_one (ps_ret (pe_tup (pa_cons (pv 2) (pa_cons (pe_tupO T (pv 3)) pa_nil)))))))), ?_⟩
    refine ⟨_, rfl, r, _, (0 : Nat), _, rfl, rfl, SqT.of h1, atI_nat rfl, a, rfl, h2, hm, fun act => ?_⟩
    refine ⟨by show 0 ≤ sizeLine; decide, fun F hF => ?_⟩
    have s0 : Same H (upd H F (.lst [])) := same_new hF
    have e0 : (upd H F (.lst [])) F = some (.lst []) := upd_same
    generalize upd H F (.lst []) = H0 at s0 e0
    refine ⟨_, rfl, r, _, (1 : Nat), _, rfl, rfl, SqT.of (s0 _ _ h1), atI_nat rfl, f, rfl, ⟨_, SqL.of (s0 _ _ h3)⟩, for_list (K := K) (xs := as.map V.ref) (fun i σ H' => ∃ (v : Option V) (xs : List V), σ = [some (.ref r), some (.ref wp), some (.int act), some (.ref F), v] ∧ Same H H' ∧ H' F = some (.lst xs) ∧ xs.length = i ∧ i ≤ is.length)
      ⟨none, [], rfl, s0, e0, rfl, Nat.zero_le _⟩ (fun i σ H' _ ⟨_, _, _, sm, _⟩ => SqL.of (sm _ _ h3)) ?_ ?_⟩
    · rintro i y σ H' hi ⟨v, xs, rfl, sm, hl, hlen, hile⟩
      obtain ⟨z, hz, rfl, ha⟩ := map_at hi
      have hz2 := (List.getElem?_eq_some_iff.mp hz).1
      have hfl := ((h5 z ha).1).same sm
      obtain ⟨x, zs, c, w, n, ez, ex⟩ := hfl.fst
      have lenq : decide (V.int (xs.length : Int) = V.int ((is.map V.int).length : Int)) = decide (i = is.length) := decide_eq_decide.mpr ⟨fun q => by
        have q2 := V.int.inj q
        rw [List.length_map, hlen] at q2
        omega, fun q => by rw [List.length_map, hlen, q]⟩
      refine ⟨_, rfl, F, _, rfl, .inl (SqL.of hl), _, rfl, wp, _, rfl, .inr (s_sqT sm hwp), rfl, _, rfl, ?_⟩
      rw [lenq]
      by_cases h9 : i = is.length
      · rw [decide_eq_true h9]
        exact iteT ⟨_, rfl, z, _, (0 : Nat), _, rfl, rfl, SqL.of ez, atI_nat rfl, x, _, (2 : Nat), _, rfl, rfl, SqT.of ex, atI_nat rfl, te_go rfl ((hm.same sm) _ _ (by decide +kernel))⟩
      · rw [decide_eq_false h9]
        have hi2 : i < is.length := by omega
        have e5 : (is.map V.int)[i]? = some (.int is[i]) := by rw [List.getElem?_map, List.getElem?_eq_getElem hi2]; rfl
        refine iteF ⟨_, rfl, .inl ⟨rfl, _, SqL.of hl⟩, _, rfl, _, rfl, _, rfl, F, _, rfl, .inl (SqL.of hl), wp, _, _, _, rfl, rfl, s_sqT sm hwp, (by rw [hlen]; exact atI_nat e5), z, _, rfl, hfl, hm.same sm, fun p H2 s2 => ?_⟩
        refine ⟨F, _, _, rfl, rfl, s2 _ _ hl, Evl.sz_lt (by omega), _, _, rfl, s_mut (sm.trans s2) hF, upd_same, ?_, by omega⟩
        rw [List.length_append, hlen]
        rfl
    · rintro σ H' ⟨v, xs, rfl, sm, hl, hlen, hile⟩
      refine ⟨_, rfl, F, _, rfl, .inl (SqL.of hl), _, rfl, wp, _, rfl, .inr (s_sqT sm hwp), _, _, rfl, rfl, _, rfl, ?_⟩
      by_cases hlt : ((xs.length : Nat) : Int) < ((is.map V.int).length : Int)
      · rw [decide_eq_true hlt]
        have h6' : H e = some (.tup [.str ke.k.cls, .str ke.w, .int (ke.c : Int)]) := h6
        exact iteT ⟨_, rfl, r, _, (2 : Nat), _, rfl, rfl, SqT.of (sm _ _ h1), atI_nat rfl, e, _, (2 : Nat), _, rfl, rfl, SqT.of (sm _ _ h6'), atI_nat rfl, te_go rfl ((hm.same sm) _ _ (by decide +kernel))⟩
      · rw [decide_eq_false hlt]
        exact iteF ⟨_, rfl, _, rfl, F, _, rfl, .inl ⟨SqL.of hl, fun p hp => ⟨by show 2 ≤ sizeLine; decide, fun q hq => k q _ ((sm.trans (same_new hp)).trans (same_new hq))⟩⟩⟩
end
end K6

set_option Elab.async false
set_option linter.all false
set_option maxRecDepth 100000
set_option maxHeartbeats 4000000
set_option autoImplicit false
namespace K6
open PySem PySem.Spec PyProof.Rows L2
open TL (tl len_tl ext_tl)
/-! ### read_list -/
theorem run_noah {os : List Str} : ∀ (ts : List Tk) (s : Sta), run false s ts ≠ .ah os
  | [], s => by unfold run; intro h; cases h
  | t :: r, s => by
    unfold run
    rw [if_neg (fun z => Bool.noConfusion z.2)]
    cases step s t.k with
    | none => intro h; cases h
    | some s' =>
      show (if t.k = .fin then Res.ok else run false s' r) ≠ _
      by_cases hf : t.k = .fin
      · rw [if_pos hf]; intro h; cases h
      · rw [if_neg hf]; exact run_noah r s'
/-- what a parse of z comes to -/
theorem wish_of {K : PySem.W.Frag} {E E' : XK} {H H3 : Hp} {p : Addr} {r : Res} {B : List Str → Prop} {F : Prop} (hn : ∀ os, r ≠ .ah os) (k : Comes K E H r B F) (e : ∀ H4, But p H3 H4 → Same H H4) (hE : E' = E) : Wish K E' p H3 r := by
  subst hE
  cases r with
  | ah os => exact absurd rfl (hn os)
  | er c x => exact fun H4 b4 d H5 s5 hd => k d H5 ((e H4 b4).trans s5) hd
  | ok => trivial
theorem comes_ok {K : PySem.W.Frag} {E : XK} {H : Hp} {r : Res} {B : List Str → Prop} {F : Prop} (h : r = .ok) (k : Comes K E H r B F) : F := by
  rw [h] at k
  exact k
theorem sqT_upd {K : PySem.W.Frag} {H : Hp} {a F : Addr} {xs ys : List V} {o : HO} (h : SqT K H a xs) (hF : H F = some (.lst ys)) : SqT K (upd H F o) a xs := by
  rcases h with (h | ⟨o', h⟩) | h
  · exact .inl (.inl (by rw [upd_ne (ne_of h hF (fun z => nomatch z))]; exact h))
  · exact .inl (.inr ⟨o', by rw [upd_ne (ne_of h hF (fun z => nomatch z))]; exact h⟩)
  · exact .inr h
def spList (K : PySem.W.Frag) : Sp := fun vs H Q E => ∃ (z : Str) (L : List Pc) (e : Nat), vs = [.str z] ∧ LaidT z L e ∧ Comes K E H (res false .start L e) (fun _ => True) (Milds K E H ∧ ∀ p H', Same H H' → Q (.ref p) H')
section
variable {P : Program} {w : World} {K : PySem.W.Frag} {mg : Str → Option Value} {base : Heap}
theorem sc_rlist : FnScope ["text", "tokens", "rules", "rest", "widths", "found", "rule"] ["text"] (defScope s_read_list) := ⟨rfl, rfl, rfl, by decide +kernel, rfl, by decide +kernel, by decide +kernel⟩
theorem ok_rlist (T : Tx K mg) : Df P w K mg base 7 "read_list" ["text"] (spList K) := by
  have DS : Df P w K mg base 4 "scan" ["text"] (spScan K) := ok_scan T
  have MW : Mf P w K mg base 6 (He.ga K "Parser") "whole" ["self"] (spWalk WholeAt .start K (He.ga K "Parser")) := ok_whole T
  have DW : Df P w K mg base 3 "widths_of" ["tokens"] (spWidths K) := ok_widths T
  have DA : Df P w K mg base 3 "action_of" ["token"] (spAction K) := ok_action T
  have DR : Df P w K mg base 5 "rule_of" ["rule", "widths"] (spRuleOf K) := ok_ruleof T
  obtain ⟨fdP, FP, bP⟩ := ok_par (P := P) (w := w) (base := base) T
  refine df_mk T.g_read_list T.d_read_list sc_rlist (fun vs H Q E h => ?_) (fun _ _ _ _ _ _ us hl => match us, hl with | [_], _ => rfl) (fun cdv A outer s H vs Q E hr h => ?_)
  · obtain ⟨z, L, e, rfl, _⟩ := h
    rfl
  · obtain ⟨z, L, e, rfl, hL, k⟩ := h
    have hr2 : Room 2 _ := hr.mono (by decide)
    have hr3 : Room 3 _ := hr.mono (by decide)
    have hr4 : Room 4 _ := hr.mono (by decide)
    have hr5 : Room 5 _ := hr.mono (by decide)
    refine ⟨_, pss_cons (ps_asg (pe_m0 (pe_make T.mk_ FP hr2 rfl T.g_Parser bP .nil passL (pa_cons (pe_d DS hr4 tkE (pa_cons (pv 0) pa_nil)) (pa_cons pe_bl pa_nil))) T.cl MW hr tkE)
        (pg_tup rfl (pgs_cons (pg_name (i := 1) sc_rlist.nd rfl (Or.inl rfl)) (pgs_cons (pg_name (i := 2) sc_rlist.nd rfl (Or.inl rfl)) (pgs_cons (pg_name (i := 3) sc_rlist.nd rfl (Or.inl rfl)) pgs_nil)))))
      (pss_cons (ps_set (i := 4) sc_rlist.nd rfl (Or.inl rfl) (pe_d DW hr3 tkE (pa_cons (pv 1) pa_nil)))
      (pss_cons (ps_set (i := 5) sc_rlist.nd rfl (Or.inl rfl) (pe_lst pa_nil))
      (pss_cons (ps_for pwE rfl (pi_list (pv 2)) (pg_name (i := 6) sc_rlist.nd rfl (Or.inl rfl))
        (pss_cons (ps_if (pt_cmpR op_eq (pe_lenQ T (pv 5)) (pe_gi T.i_MOST_RULES) (nomark _))
          (pss_one (ps_te T rfl hr2 tkE (pa_cons (pe_ix ix_tup (pe_ix ix_tup (pv 6) pe_int (fun _ _ => rfl)) pe_int (fun _ _ => rfl)) (pa_cons pe_str pa_nil)))) pss_nil)
        (pss_one (ps_expr (pe_app (pv 5) (pe_d DR hr5 tkE (pa_cons (pv 6) (pa_cons (pv 4) pa_nil))))))))
      (pss_one (ps_ret (pe_tup (pa_cons (pv 4) (pa_cons (pe_tupO T (pv 5)) (pa_cons (pe_d DA hr3 tkE (pa_cons (pv 3) pa_nil)) pa_nil))))))))), ?_⟩
    obtain ⟨h1, h2, h3, h4⟩ := id hL
    refine ⟨_, rfl, z, L, e, rfl, h1, h2, h3, h4, ?_⟩
    unfold res at k
    cases hs : scanM 0 L e with
    | inr x =>
      rw [hs] at k
      exact k
    | inl ts =>
      rw [hs] at k
      obtain ⟨hG, h0⟩ := hL.good hs
      intro t H1 s1 ht p dx hp hdx hne
      have s2 : Same H1 (upd (upd H1 dx (.own p)) p (.ins (He.ga K "Parser") dx [])) := (same_new hdx).trans (same_new (by rw [upd_ne hne.symm]; exact hp))
      have ep : (upd (upd H1 dx (.own p)) p (.ins (He.ga K "Parser") dx [])) p = some (.ins (He.ga K "Parser") dx []) := upd_same
      generalize upd (upd H1 dx (.own p)) p (.ins (He.ga K "Parser") dx []) = H2 at s2 ep
      refine ⟨p, dx, t, false, rfl, ep, fun H3 b3 P3 => ⟨rfl, ?_⟩⟩
      have s3 : Same H1 H3 := But.fresh (q := p) s2 hp b3
      have s03 := s1.trans s3
      have p0 : H p = none := s1.free hp
      have T3 : TksAt H3 t ts := ht.same s3
      obtain ⟨dx3, hp3⟩ := P3
      have sbut : ∀ H4, But p H3 H4 → Same H H4 := fun H4 b4 => But.fresh (q := p) s03 p0 b4
      refine ⟨p, dx3, _, rfl, hp3, rfl, p, t, false, ts, rfl, ⟨dx3, hp3⟩, T3, hG, h0, wish_of (fun os => run_noah ts .start) k sbut rfl, fun hok r H4 b4 hA => ?_⟩
      obtain ⟨hm, k'⟩ := comes_ok hok k
      have sm4 := sbut H4 b4
      obtain ⟨wl, q, e, ws, rs, a1, a2, a3, a4, a5, a6, a7, a8⟩ := hA
      refine ⟨r, _, rfl, SqT.of a1, rfl, _, _, rfl, _, _, rfl, _, _, rfl, rfl, _, rfl, wl, ws, rfl, a2, a3, hm.same sm4, fun wp H5 is s5 hwp => ?_⟩
      have sm5 := sm4.trans s5
      refine ⟨by show 0 ≤ sizeLine; decide, fun F hF => ?_⟩
      have s6 := sm5.trans (same_new (o := .lst []) hF)
      have F0 : H F = none := sm5.free hF
      have e6 : (upd H5 F (.lst [])) F = some (.lst []) := upd_same
      have s56 : Same H4 (upd H5 F (.lst [])) := s5.trans (same_new hF)
      have hwp6 := s_sqT (same_new (o := .lst []) hF) hwp
      have F4 : H4 F = none := s5.free hF
      generalize upd H5 F (.lst []) = H6 at s6 e6 s56 hwp6
      refine ⟨_, rfl, q, rfl, ⟨_, SqL.of (s56 _ _ a4)⟩, for_list (K := K) (xs := rs.map V.ref) (fun i σ H' => ∃ (v : Option V) (xs : List V), σ = [some (.str z), some (.ref wl), some (.ref q), some (.ref e), some (.ref wp), some (.ref F), v] ∧ Same H4 H' ∧ H' F = some (.lst xs) ∧ xs.length = i ∧ i ≤ 7 ∧ SqT K H' wp (is.map V.int))
        ⟨none, [], rfl, s56, e6, rfl, by decide, hwp6⟩ (fun i σ H' _ ⟨_, _, _, sm, _⟩ => SqL.of (sm _ _ a4)) ?_ ?_⟩
      · rintro i y σ H' hi ⟨v, xs, rfl, sm, hl, hlen, hi7, hw'⟩
        obtain ⟨u, hu, rfl, hum⟩ := map_at hi
        have hru := (a5 u hum).same sm
        have hm' := hm.same (sm4.trans sm)
        refine ⟨_, rfl, F, _, rfl, .inl (SqL.of hl), rfl, _, rfl, ?_⟩
        by_cases h7 : i = 7
        · rw [decide_eq_true (by rw [hlen, h7]; rfl)]
          obtain ⟨a, f, x, as, g1, g2, _⟩ := hru
          obtain ⟨c, w, n, g3, _⟩ := g2.get
          exact iteT ⟨_, rfl, u, _, (0 : Nat), _, rfl, rfl, SqT.of g1, atI_nat rfl, a, _, (2 : Nat), _, rfl, rfl, SqT.of g3, atI_nat rfl, te_go rfl (hm' _ _ (by decide +kernel))⟩
        · rw [decide_eq_false (fun z => by
            have z2 := V.int.inj z
            rw [hlen] at z2
            omega)]
          refine iteF ⟨_, rfl, .inl ⟨rfl, _, SqL.of hl⟩, _, rfl, _, rfl, u, wp, is, rfl, hru, hw', hm', fun g H7 s7 => ?_⟩
          refine ⟨F, _, _, rfl, rfl, s7 _ _ hl, Evl.sz_lt (by omega), _, _, rfl, s_mut (sm.trans s7) F4, upd_same, by rw [List.length_append, hlen]; rfl, by omega, ?_⟩
          exact sqT_upd (s_sqT s7 hw') (s7 _ _ hl)
      · rintro σ H' ⟨v, xs, rfl, sm, hl, hlen, hi7, hw'⟩
        refine ⟨_, rfl, _, rfl, F, _, rfl, .inl ⟨SqL.of hl, fun p hp => ?_⟩⟩
        have s8 := (sm4.trans sm).trans (same_new (o := .tup xs) hp)
        refine ⟨_, rfl, e, rfl, (a6.same sm).same (same_new hp), hm.same s8, fun i => ⟨by show 3 ≤ sizeLine; decide, fun q hq => k' q _ (s8.trans (same_new hq))⟩⟩
end
end K6

set_option Elab.async false
set_option linter.all false
set_option maxRecDepth 100000
set_option maxHeartbeats 4000000
set_option autoImplicit false
namespace K6
open PySem PySem.Spec PyProof.Rows L2
open TL (tl len_tl ext_tl)
/-! ### read_row, read_case -/
/-- the one list that the law reads rows and cases of -/
def Listed (H : Hp) (l : Addr) : Prop := ∃ (w r r1 r2 f1 f2 g1 g2 g3 g4 : Addr), H l = some (.tup [.ref w, .ref r, .int 0]) ∧ H w = some (.tup [.int 4, .int 2]) ∧ H r = some (.tup [.ref r1, .ref r2]) ∧
  (H r1 = some (.tup [.int 1, .ref f1]) ∧ H f1 = some (.tup [.ref g1, .ref g2]) ∧ H g1 = some (.tup [.int 0, .int 1]) ∧ H g2 = some (.tup [.int 0, .int 1])) ∧
  (H r2 = some (.tup [.int 2, .ref f2]) ∧ H f2 = some (.tup [.ref g3, .ref g4]) ∧ H g3 = some (.tup [.int 1, .int 3]) ∧ H g4 = some (.tup [.int 1, .int 1]))
theorem Listed.same {H H' : Hp} {l : Addr} (h : Listed H l) (e : Same H H') : Listed H' l := by
  obtain ⟨w, r, r1, r2, f1, f2, g1, g2, g3, g4, a, b, c, ⟨d1, d2, d3, d4⟩, e1, e2, e3, e4⟩ := h
  exact ⟨w, r, r1, r2, f1, f2, g1, g2, g3, g4, e _ _ a, e _ _ b, e _ _ c, ⟨e _ _ d1, e _ _ d2, e _ _ d3, e _ _ d4⟩, e _ _ e1, e _ _ e2, e _ _ e3, e _ _ e4⟩
theorem Listed.two {H : Hp} {l : Addr} (h : Listed H l) : ∃ (w r r1 r2 : Addr), H l = some (.tup [.ref w, .ref r, .int 0]) ∧ H w = some (.tup [.int 4, .int 2]) ∧ H r = some (.tup [.ref r1, .ref r2]) := by
  obtain ⟨w, r, r1, r2, f1, f2, g1, g2, g3, g4, a, b, c, _⟩ := h
  exact ⟨w, r, r1, r2, a, b, c⟩
def spCheckL : Sp := fun vs H Q _ => ∃ (l : Addr) (nm : Str), vs = [.ref l, .str nm] ∧ Listed H l ∧ ∀ H', Same H H' → Q .non H'
def spNums (K : PySem.W.Frag) : Sp := fun vs H Q E => ∃ (l : Addr) (z : Str) (L : List Pc) (e : Nat), vs = [.ref l, .str z] ∧ Listed H l ∧ LaidT z L e ∧ Comes K E H (res false .row L e) (fun _ => True) (Milds K E H ∧ ∀ p H', Same H H' → Q (.ref p) H')
theorem flat_ints (is : List Int) : (is.map V.int).all flatV = true := by
  induction is with
  | nil => rfl
  | cons i r ih => exact ih
section
variable {P : Program} {w : World} {K : PySem.W.Frag} {mg : Str → Option Value} {base : Heap}
theorem sc_rrow : FnScope ["listed", "text", "tokens", "end", "found", "token"] ["listed", "text"] (defScope s_read_row) := ⟨rfl, rfl, rfl, by decide +kernel, rfl, by decide +kernel, by decide +kernel⟩
theorem ok_rrow (T : Tx K mg) (DL : Df P w K mg base 5 "check_list" ["listed", "name"] spCheckL) : Df P w K mg base 7 "read_row" ["listed", "text"] (spNums K) := by
  have DS : Df P w K mg base 4 "scan" ["text"] (spScan K) := ok_scan T
  have MN : Mf P w K mg base 5 (He.ga K "Parser") "numbers" ["self"] (spWalk NumsAt .row K (He.ga K "Parser")) := ok_nums T
  obtain ⟨fdP, FP, bP⟩ := ok_par (P := P) (w := w) (base := base) T
  refine df_mk T.g_read_row T.d_read_row sc_rrow (fun vs H Q E h => ?_) (fun _ _ _ _ _ _ us hl => match us, hl with | [_, _], _ => rfl) (fun cdv A outer s H vs Q E hr h => ?_)
  · obtain ⟨l, z, L, e, rfl, _⟩ := h
    rfl
  · obtain ⟨l, z, L, e, rfl, hl, hL, k⟩ := h
    have hr2 : Room 2 _ := hr.mono (by decide)
    have hr4 : Room 4 _ := hr.mono (by decide)
    have hr5 : Room 5 _ := hr.mono (by decide)
    refine ⟨_, pss_cons (ps_expr (pe_d DL hr5 takes0 (pa_cons (pv 0) (pa_cons pe_str pa_nil))))
      (pss_cons (ps_asg (pe_m0 (pe_make T.mk_ FP hr2 rfl T.g_Parser bP .nil passL (pa_cons (pe_d DS hr4 tkE (pa_cons (pv 1) pa_nil)) (pa_cons pe_bl pa_nil))) T.cl MN hr5 tkE)
        (pg_tup rfl (pgs_cons (pg_name (i := 2) sc_rrow.nd rfl (Or.inl rfl)) (pgs_cons (pg_name (i := 3) sc_rrow.nd rfl (Or.inl rfl)) pgs_nil))))
      (pss_cons (ps_set (i := 4) sc_rrow.nd rfl (Or.inl rfl) (pe_lst pa_nil))
      (pss_cons (ps_for pwE rfl (pi_list (pv 2)) (pg_name (i := 5) sc_rrow.nd rfl (Or.inl rfl))
        (pss_cons (ps_if (pt_cmpR op_ge (pe_intS T (pe_ix ix_tup (pv 5) pe_int (fun _ _ => rfl))) (pe_lenQ T (pe_ix ix_tup (pv 0) pe_int (fun _ _ => rfl))) (nomark _))
          (pss_one (ps_te T rfl hr2 tkE (pa_cons (pe_ix ix_tup (pv 5) pe_int (fun _ _ => rfl)) (pa_cons pe_str pa_nil)))) pss_nil)
        (pss_cons (ps_if (pt_cmpR op_in_seq (pe_intS T (pe_ix ix_tup (pv 5) pe_int (fun _ _ => rfl))) (pv 4) rfl)
          (pss_one (ps_te T rfl hr2 tkE (pa_cons (pe_ix ix_tup (pv 5) pe_int (fun _ _ => rfl)) (pa_cons pe_str pa_nil)))) pss_nil)
        (pss_one (ps_expr (pe_app (pv 4) (pe_intS T (pe_ix ix_tup (pv 5) pe_int (fun _ _ => rfl)))))))))
      (pss_cons (ps_if (pt_cmpR op_lt (pe_lenQ T (pv 4)) (pe_lenQ T (pe_ix ix_tup (pv 0) pe_int (fun _ _ => rfl))) (nomark _))
          (pss_one (ps_te T rfl hr2 tkE (pa_cons (pe_ix ix_tup (pv 3) pe_int (fun _ _ => rfl)) (pa_cons pe_str pa_nil)))) pss_nil)
      (pss_one (ps_ret (pe_tupO T (pv 4)))))))), ?_⟩
    obtain ⟨h1, h2, h3, h4⟩ := id hL
    refine ⟨_, rfl, l, _, rfl, hl, fun Hc sc => ?_⟩
    refine ⟨_, rfl, z, L, e, rfl, h1, h2, h3, h4, ?_⟩
    unfold res at k
    cases hs : scanM 0 L e with
    | inr x =>
      rw [hs] at k
      exact RTE.same k sc
    | inl ts =>
      rw [hs] at k
      obtain ⟨hG, h0⟩ := hL.good hs
      intro t H1 s1 ht p dx hp hdx hne
      have s2 : Same H1 (upd (upd H1 dx (.own p)) p (.ins (He.ga K "Parser") dx [])) := (same_new hdx).trans (same_new (by rw [upd_ne hne.symm]; exact hp))
      have ep : (upd (upd H1 dx (.own p)) p (.ins (He.ga K "Parser") dx [])) p = some (.ins (He.ga K "Parser") dx []) := upd_same
      generalize upd (upd H1 dx (.own p)) p (.ins (He.ga K "Parser") dx []) = H2 at s2 ep
      refine ⟨p, dx, t, false, rfl, ep, fun H3 b3 P3 => ⟨rfl, ?_⟩⟩
      have s3 : Same H1 H3 := But.fresh (q := p) s2 hp b3
      have s01 := sc.trans s1
      have s03 := s01.trans s3
      have p0 : H p = none := s01.free hp
      have T3 : TksAt H3 t ts := ht.same s3
      obtain ⟨dx3, hp3⟩ := P3
      have sbut : ∀ H4, But p H3 H4 → Same H H4 := fun H4 b4 => But.fresh (q := p) s03 p0 b4
      refine ⟨p, dx3, _, rfl, hp3, rfl, p, t, false, ts, rfl, ⟨dx3, hp3⟩, T3, hG, h0, wish_of (fun os => run_noah ts .row) k sbut rfl, fun hok r H4 b4 hA => ?_⟩
      obtain ⟨hm, k'⟩ := comes_ok hok k
      have sm4 := sbut H4 b4
      obtain ⟨f, en, as, a1, a2, a3, ⟨ke, a4⟩, a5⟩ := hA
      obtain ⟨wl, rl, r1, r2, l1, l2, l3⟩ := (hl.same sm4).two
      refine ⟨r, _, rfl, SqT.of a1, rfl, _, _, rfl, _, _, rfl, rfl, by show 0 ≤ sizeLine; decide, fun F hF => ?_⟩
      have s6 := sm4.trans (same_new (o := .lst []) hF)
      have s46 : Same H4 (upd H4 F (.lst [])) := same_new hF
      have e6 : (upd H4 F (.lst [])) F = some (.lst (([] : List Int).map V.int)) := upd_same
      generalize upd H4 F (.lst []) = H6 at s6 e6 s46
      refine ⟨_, rfl, f, rfl, ⟨_, SqL.of (s46 _ _ a2)⟩, for_list (K := K) (xs := as.map V.ref) (fun i σ H' => ∃ (v : Option V) (is : List Int), σ = [some (.ref l), some (.str z), some (.ref f), some (.ref en), some (.ref F), v] ∧ Same H4 H' ∧ H' F = some (.lst (is.map V.int)) ∧ is.length = i)
        ⟨none, [], rfl, s46, e6, rfl⟩ (fun i σ H' _ ⟨_, _, _, sm, _⟩ => SqL.of (sm _ _ a2)) ?_ ?_⟩
      · rintro i y σ H' hi ⟨v, is, rfl, sm, hF', hlen⟩
        obtain ⟨u, hu, rfl, hum⟩ := map_at hi
        have hu2 := (List.getElem?_eq_some_iff.mp hu).1
        have hm' := hm.same (sm4.trans sm)
        obtain ⟨c, x, n, ex, hx, hx2⟩ := ((a3 u hum).same sm).get
        refine ⟨_, rfl, u, _, (1 : Nat), _, rfl, rfl, SqT.of ex, atI_nat rfl, x, _, rfl, hx, hx2, _, rfl, l, _, (1 : Nat), _, rfl, rfl, SqT.of (sm _ _ l1), atI_nat rfl, rl, _, rfl, .inr (SqT.of (sm _ _ l3)), _, _, rfl, rfl, _, rfl, ?_⟩
        by_cases h5 : (([.ref r1, .ref r2] : List V).length : Int) ≤ vN x
        · rw [decide_eq_true h5]
          exact iteT ⟨_, rfl, u, _, (2 : Nat), _, rfl, rfl, SqT.of ex, atI_nat rfl, te_go rfl (hm' _ _ (by decide +kernel))⟩
        · rw [decide_eq_false h5]
          refine iteF ⟨_, rfl, u, _, (1 : Nat), _, rfl, rfl, SqT.of ex, atI_nat rfl, x, _, rfl, hx, hx2, _, rfl, F, _, rfl, .inl (SqL.of hF'), rfl, flat_ints is, _, rfl, ?_⟩
          rw [if_neg Bool.false_ne_true]
          cases inV (V.int (vN x)) (is.map V.int) with
          | true => exact iteT ⟨_, rfl, u, _, (2 : Nat), _, rfl, rfl, SqT.of ex, atI_nat rfl, te_go rfl (hm' _ _ (by decide +kernel))⟩
          | false =>
            refine iteF ⟨_, rfl, .inl ⟨rfl, _, SqL.of hF'⟩, _, rfl, u, _, (1 : Nat), _, rfl, rfl, SqT.of ex, atI_nat rfl, x, _, rfl, hx, hx2, F, _, _, rfl, rfl, hF', Evl.sz_lt (by rw [List.length_map]; omega), ?_⟩
            exact ⟨_, is ++ [vN x], rfl, s_mut sm hF, by rw [upd_same, List.map_append]; rfl, by rw [List.length_append, hlen]; rfl⟩
      · rintro σ H' ⟨v, is, rfl, sm, hF', hlen⟩
        refine ⟨_, rfl, F, _, rfl, .inl (SqL.of hF'), _, rfl, l, _, (1 : Nat), _, rfl, rfl, SqT.of (sm _ _ l1), atI_nat rfl, rl, _, rfl, .inr (SqT.of (sm _ _ l3)), _, _, rfl, rfl, _, rfl, ?_⟩
        by_cases h5 : ((is.map V.int).length : Int) < (([.ref r1, .ref r2] : List V).length : Int)
        · rw [decide_eq_true h5]
          have a4' : H4 en = some (.tup [.str ke.k.cls, .str ke.w, .int (ke.c : Int)]) := a4
          exact iteT ⟨_, rfl, en, _, (2 : Nat), _, rfl, rfl, SqT.of (sm _ _ a4'), atI_nat rfl, te_go rfl ((hm.same (sm4.trans sm)) _ _ (by decide +kernel))⟩
        · rw [decide_eq_false h5]
          exact iteF ⟨_, rfl, F, _, rfl, .inl ⟨SqL.of hF', fun p hp => k' p _ ((sm4.trans sm).trans (same_new hp))⟩⟩
theorem sc_rcase : FnScope ["listed", "text", "tokens", "end", "found", "token"] ["listed", "text"] (defScope s_read_case) := ⟨rfl, rfl, rfl, by decide +kernel, rfl, by decide +kernel, by decide +kernel⟩
theorem ok_rcase (T : Tx K mg) (DL : Df P w K mg base 5 "check_list" ["listed", "name"] spCheckL) : Df P w K mg base 7 "read_case" ["listed", "text"] (spNums K) := by
  have DS : Df P w K mg base 4 "scan" ["text"] (spScan K) := ok_scan T
  have DV : Df P w K mg base 3 "value_of" ["token", "width"] (spValue K) := ok_value T
  have MN : Mf P w K mg base 5 (He.ga K "Parser") "numbers" ["self"] (spWalk NumsAt .row K (He.ga K "Parser")) := ok_nums T
  obtain ⟨fdP, FP, bP⟩ := ok_par (P := P) (w := w) (base := base) T
  refine df_mk T.g_read_case T.d_read_case sc_rcase (fun vs H Q E h => ?_) (fun _ _ _ _ _ _ us hl => match us, hl with | [_, _], _ => rfl) (fun cdv A outer s H vs Q E hr h => ?_)
  · obtain ⟨l, z, L, e, rfl, _⟩ := h
    rfl
  · obtain ⟨l, z, L, e, rfl, hl, hL, k⟩ := h
    have hr2 : Room 2 _ := hr.mono (by decide)
    have hr3 : Room 3 _ := hr.mono (by decide)
    have hr4 : Room 4 _ := hr.mono (by decide)
    have hr5 : Room 5 _ := hr.mono (by decide)
    refine ⟨_, pss_cons (ps_expr (pe_d DL hr5 takes0 (pa_cons (pv 0) (pa_cons pe_str pa_nil))))
      (pss_cons (ps_asg (pe_m0 (pe_make T.mk_ FP hr2 rfl T.g_Parser bP .nil passL (pa_cons (pe_d DS hr4 tkE (pa_cons (pv 1) pa_nil)) (pa_cons pe_bl pa_nil))) T.cl MN hr5 tkE)
        (pg_tup rfl (pgs_cons (pg_name (i := 2) sc_rcase.nd rfl (Or.inl rfl)) (pgs_cons (pg_name (i := 3) sc_rcase.nd rfl (Or.inl rfl)) pgs_nil))))
      (pss_cons (ps_set (i := 4) sc_rcase.nd rfl (Or.inl rfl) (pe_lst pa_nil))
      (pss_cons (ps_for pwE rfl (pi_list (pv 2)) (pg_name (i := 5) sc_rcase.nd rfl (Or.inl rfl))
        (pss_cons (ps_if (pt_cmpR op_eq (pe_lenQ T (pv 4)) (pe_lenQ T (pe_ix ix_tup (pv 0) pe_int (fun _ _ => rfl))) (nomark _))
          (pss_one (ps_te T rfl hr2 tkE (pa_cons (pe_ix ix_tup (pv 5) pe_int (fun _ _ => rfl)) (pa_cons pe_str pa_nil)))) pss_nil)
        (pss_one (ps_expr (pe_app (pv 4) (pe_d DV hr3 tkE (pa_cons (pv 5) (pa_cons (pe_ix ix_tup (pe_ix ix_tup (pv 0) pe_int (fun _ _ => rfl)) (pe_lenQ T (pv 4)) (fun _ _ => rfl)) pa_nil))))))))
      (pss_cons (ps_if (pt_cmpR op_lt (pe_lenQ T (pv 4)) (pe_lenQ T (pe_ix ix_tup (pv 0) pe_int (fun _ _ => rfl))) (nomark _))
          (pss_one (ps_te T rfl hr2 tkE (pa_cons (pe_ix ix_tup (pv 3) pe_int (fun _ _ => rfl)) (pa_cons pe_str pa_nil)))) pss_nil)
      (pss_one (ps_ret (pe_tupO T (pv 4)))))))), ?_⟩
    obtain ⟨h1, h2, h3, h4⟩ := id hL
    refine ⟨_, rfl, l, _, rfl, hl, fun Hc sc => ?_⟩
    refine ⟨_, rfl, z, L, e, rfl, h1, h2, h3, h4, ?_⟩
    unfold res at k
    cases hs : scanM 0 L e with
    | inr x =>
      rw [hs] at k
      exact RTE.same k sc
    | inl ts =>
      rw [hs] at k
      obtain ⟨hG, h0⟩ := hL.good hs
      intro t H1 s1 ht p dx hp hdx hne
      have s2 : Same H1 (upd (upd H1 dx (.own p)) p (.ins (He.ga K "Parser") dx [])) := (same_new hdx).trans (same_new (by rw [upd_ne hne.symm]; exact hp))
      have ep : (upd (upd H1 dx (.own p)) p (.ins (He.ga K "Parser") dx [])) p = some (.ins (He.ga K "Parser") dx []) := upd_same
      generalize upd (upd H1 dx (.own p)) p (.ins (He.ga K "Parser") dx []) = H2 at s2 ep
      refine ⟨p, dx, t, false, rfl, ep, fun H3 b3 P3 => ⟨rfl, ?_⟩⟩
      have s3 : Same H1 H3 := But.fresh (q := p) s2 hp b3
      have s01 := sc.trans s1
      have s03 := s01.trans s3
      have p0 : H p = none := s01.free hp
      have T3 : TksAt H3 t ts := ht.same s3
      obtain ⟨dx3, hp3⟩ := P3
      have sbut : ∀ H4, But p H3 H4 → Same H H4 := fun H4 b4 => But.fresh (q := p) s03 p0 b4
      refine ⟨p, dx3, _, rfl, hp3, rfl, p, t, false, ts, rfl, ⟨dx3, hp3⟩, T3, hG, h0, wish_of (fun os => run_noah ts .row) k sbut rfl, fun hok r H4 b4 hA => ?_⟩
      obtain ⟨hm, k'⟩ := comes_ok hok k
      have sm4 := sbut H4 b4
      obtain ⟨f, en, as, a1, a2, a3, ⟨ke, a4⟩, a5⟩ := hA
      obtain ⟨wl, rl, r1, r2, l1, l2, l3⟩ := (hl.same sm4).two
      refine ⟨r, _, rfl, SqT.of a1, rfl, _, _, rfl, _, _, rfl, rfl, by show 0 ≤ sizeLine; decide, fun F hF => ?_⟩
      have s6 := sm4.trans (same_new (o := .lst []) hF)
      have s46 : Same H4 (upd H4 F (.lst [])) := same_new hF
      have e6 : (upd H4 F (.lst [])) F = some (.lst (([] : List Int).map V.int)) := upd_same
      generalize upd H4 F (.lst []) = H6 at s6 e6 s46
      refine ⟨_, rfl, f, rfl, ⟨_, SqL.of (s46 _ _ a2)⟩, for_list (K := K) (xs := as.map V.ref) (fun i σ H' => ∃ (v : Option V) (is : List Int), σ = [some (.ref l), some (.str z), some (.ref f), some (.ref en), some (.ref F), v] ∧ Same H4 H' ∧ H' F = some (.lst (is.map V.int)) ∧ is.length = i ∧ i ≤ 2)
        ⟨none, [], rfl, s46, e6, rfl, by decide⟩ (fun i σ H' _ ⟨_, _, _, sm, _⟩ => SqL.of (sm _ _ a2)) ?_ ?_⟩
      · rintro i y σ H' hi ⟨v, is, rfl, sm, hF', hlen, hi2⟩
        obtain ⟨u, hu, rfl, hum⟩ := map_at hi
        have hu2 := (List.getElem?_eq_some_iff.mp hu).1
        have hm' := hm.same (sm4.trans sm)
        have hn := (a3 u hum).same sm
        obtain ⟨c, x, n, ex, hx, hx2⟩ := hn.get
        refine ⟨_, rfl, F, _, rfl, .inl (SqL.of hF'), _, rfl, l, _, (0 : Nat), _, rfl, rfl, SqT.of (sm _ _ l1), atI_nat rfl, wl, _, rfl, .inr (SqT.of (sm _ _ l2)), rfl, _, rfl, ?_⟩
        by_cases h5 : i = 2
        · rw [decide_eq_true (by rw [List.length_map, hlen, h5]; rfl)]
          exact iteT ⟨_, rfl, u, _, (2 : Nat), _, rfl, rfl, SqT.of ex, atI_nat rfl, te_go rfl (hm' _ _ (by decide +kernel))⟩
        · rw [decide_eq_false (fun z => by
            have z2 := V.int.inj z
            rw [List.length_map, hlen] at z2
            have : ([V.int 4, .int 2].length : Int) = 2 := rfl
            omega)]
          obtain ⟨wd, hwd⟩ : ∃ wd : Int, ([V.int 4, .int 2] : List V)[i]? = some (.int wd) := by
            have h01 : i = 0 ∨ i = 1 := by omega
            rcases h01 with rfl | rfl <;> exact ⟨_, rfl⟩
          refine iteF ⟨_, rfl, .inl ⟨rfl, _, SqL.of hF'⟩, _, rfl, _, rfl, l, _, (0 : Nat), _, rfl, rfl, SqT.of (sm _ _ l1), atI_nat rfl, _, rfl, F, _, rfl, .inl (SqL.of hF'), wl, _, _, _, rfl, rfl, SqT.of (sm _ _ l2), (by rw [List.length_map, hlen]; exact atI_nat hwd), u, wd, rfl, hn, hm', fun j => ?_⟩
          refine ⟨F, _, _, rfl, rfl, hF', Evl.sz_lt (by rw [List.length_map]; omega), ?_⟩
          exact ⟨_, is ++ [j], rfl, s_mut sm hF, by rw [upd_same, List.map_append]; rfl, by rw [List.length_append, hlen]; rfl, by omega⟩
      · rintro σ H' ⟨v, is, rfl, sm, hF', hlen, hi2⟩
        refine ⟨_, rfl, F, _, rfl, .inl (SqL.of hF'), _, rfl, l, _, (0 : Nat), _, rfl, rfl, SqT.of (sm _ _ l1), atI_nat rfl, wl, _, rfl, .inr (SqT.of (sm _ _ l2)), _, _, rfl, rfl, _, rfl, ?_⟩
        by_cases h5 : ((is.map V.int).length : Int) < (([.int 4, .int 2] : List V).length : Int)
        · rw [decide_eq_true h5]
          have a4' : H4 en = some (.tup [.str ke.k.cls, .str ke.w, .int (ke.c : Int)]) := a4
          exact iteT ⟨_, rfl, en, _, (2 : Nat), _, rfl, rfl, SqT.of (sm _ _ a4'), atI_nat rfl, te_go rfl ((hm.same (sm4.trans sm)) _ _ (by decide +kernel))⟩
        · rw [decide_eq_false h5]
          exact iteF ⟨_, rfl, F, _, rfl, .inl ⟨SqL.of hF', fun p hp => k' p _ ((sm4.trans sm).trans (same_new hp))⟩⟩
end
end K6

set_option Elab.async false
set_option linter.all false
set_option maxRecDepth 100000
set_option maxHeartbeats 4000000
set_option autoImplicit false
namespace K6
open PySem PySem.Spec PyProof.Rows L2
open TL (tl len_tl ext_tl)
/-! ### enumerate over a tuple (the library's rule is for lists): what its two cells are, and a turn -/
/-- the object that enumerate(v) gives over the iterator at p -/
abbrev enO (p : Addr) : Obj := { cls := .type "enumerate", data := .fields #[.none, .bool false, .ref p, rawInt 0, .none, .none] }
theorem meets_en {v : Value} {io : Obj} {F : Heap → Prop} (B : Begins v io F) :
    Meets (Builtin.«enumerate.__new__» ⟨[.type "enumerate", v], []⟩) (fun _ R t => F t.heap ∧ R (.ok (.ret (.ref (t.heap.push io).objs.size))) { t with heap := (t.heap.push io).push (enO t.heap.objs.size) }) :=
  Meets.of_wp fun pr wo Ar Re sh hyp => by
    obtain ⟨h0, gg, dd, tt, oo⟩ := sh
    obtain ⟨hF, hyp⟩ := hyp
    have sub := sub_enumerate
    have begin_ : ∀ {A2 : Around} {E2 Q2 : Value → Shared → Prop}, Q2 (.ref h0.objs.size) ⟨h0.push io, gg, dd, tt, oo⟩ → wpAny (model pr wo) A2 (pyIter v) Q2 E2 ⟨h0, gg, dd, tt, oo⟩ := fun z => B.iter pr wo _ _ _ _ hF z
    wp_walk using begin_
    refine wpAny_stack_any fun _ => ?_
    refine wpAny_pure ?_
    split
    · rename_i k _ _ _ _ _
      cases (k == Value.type "enumerate") <;> (wp_walk using begin_; exact ⟨_, rfl, hyp⟩)
    · wp_walk using begin_
      exact ⟨_, rfl, hyp⟩
theorem en_made {pr : Program} {wo : World} {Ar : Around} {E : Value → Shared → Prop} {t : Shared} {v : Value} {io : Obj} {G : Heap → Prop} {Q : Value → Shared → Prop} (B : Begins v io G) (hF : G t.heap)
    (go : ∀ h', h'.get? (t.heap.objs.size + 1) = some (enO t.heap.objs.size) → h'.get? t.heap.objs.size = some io → (∀ c u, t.heap.get? c = some u → h'.get? c = some u) → Q (.ref (t.heap.objs.size + 1)) { t with heap := h' }) :
    wpAny (model pr wo) Ar (call (.type "enumerate") [v]) Q E t := by
  have one : (t.heap.push io).objs.size = t.heap.objs.size + 1 := Heap.size_push _ _
  have new : ((t.heap.push io).push (enO t.heap.objs.size)).get? (t.heap.objs.size + 1) = some (enO t.heap.objs.size) := by
    have z := Heap.get?_push_size (t.heap.push io) (o := enO t.heap.objs.size) rfl
    rw [one] at z
    exact z
  have made := go _ new (Heap.get?_push_of_some _ (Heap.get?_push_size _ B.free)) fun c u z => Heap.get?_push_of_some _ (Heap.get?_push_of_some _ z)
  have args := fun obj => F.args_object_init_2 obj v
  refine callType_new F.called_enumerate (by decide) (F.typeCall_enumerate_1 v) (F.newCall_enumerate_1 v) args F.entry_enumerate_new (meets_en B) ⟨hF, ?_⟩
  show _ ∧ _
  rw [one]
  exact ⟨⟨_, new, rfl⟩, made⟩
/-- an iterator past the end draws nothing -/
theorem draws_end {pr : Program} {wo : World} {Ar : Around} (free : Ar.handled = none) (it a : Addr) (items : Array Value) (n : Nat) (hn : items.toList[n]? = none) :
    Draws pr wo Ar it [it, a] n (fun _ _ => True) (fun j h => j = n ∧ h.IsTupleIter it a j ∧ h.IsTuple a items) where
  live := fun _ _ ⟨_, z, _⟩ => ⟨z.choose, z.choose_spec.1⟩
  frame := fun _ _ _ ⟨z1, z2, z3⟩ keep => ⟨z1, z2.at fun u z => keep it (by simp) u z, z3.at fun u z => keep a (by simp) u z⟩
  item := fun _ _ _ _ lt ⟨z, _⟩ _ => absurd z (Nat.ne_of_lt lt)
  done := fun _ _ _ ⟨_, z2, z3⟩ out => wpAny_nextOf_tuple_end free z2 z3 (by simpa using hn) out
/-- objects of two classes stand at two places -/
theorem cls_apart {h : Heap} {b c : Addr} {u v : Obj} {m n : String} (hb : h.get? b = some u) (hc : h.get? c = some v) (cu : u.cls = .type m) (cv : v.cls = .type n) (ne : m ≠ n) : b ≠ c := by
  intro z
  rw [z, hc] at hb
  cases hb
  rw [cv] at cu
  injection cu with cu
  exact ne cu.symm
/-- the pairs of the tuple at a -/
def IteT (K : PySem.W.Frag) (a : Addr) : It where
  go := fun i H => ∃ (xs : List V) (x : V), SqT K H a xs ∧ xs[i]? = some x
  yld := fun i H v H' => ∃ p x, v = .ref p ∧ H p = none ∧ H' = upd H p (.tup [.int (i : Nat), x]) ∧ ∀ xs, SqT K H a xs → xs[i]? = some x
  stop := fun i H => ∃ xs : List V, SqT K H a xs ∧ xs.length ≤ i
/-- the enumerate object at e, its iterator at `it`, before the i-th item -/
structure EnT (a e it : Addr) (i : Nat) (h : Heap) : Prop where
  en : ∃ last, IsEnum h e it ((i : Nat) : Int) last
  iter : h.IsTupleIter it a i
  ne : e ≠ it
theorem EnT.apart {a e it : Addr} {i : Nat} {h : Heap} {items : Array Value} (z : EnT a e it i h) (t : IsTup h a items) : a ≠ it ∧ a ≠ e := by
  obtain ⟨u, hu, cu, _⟩ := t
  obtain ⟨_, hv, cv, _⟩ := z.iter
  obtain ⟨_, hw⟩ := z.en
  exact ⟨cls_apart hu hv cu cv (by decide), cls_apart hu hw cu rfl (by decide)⟩
theorem two_of {b e it : Addr} (hb : b ∈ [e, it]) : b = e ∨ b = it := by
  rcases List.mem_cons.mp hb with z | z
  · exact .inl z
  · exact .inr (List.mem_singleton.mp z)
theorem turn_enT {P : Program} {w : World} {K : PySem.W.Frag} {elts : List Expr} {kk : Nat} {tp : Pos} (a e it : Addr) : Turn P w K (.Tuple elts kk tp) (IteT K a) [e, it] e (EnT a e it) where
  mem := List.mem_cons_self
  obj := by
    intro i h z b hb
    rcases two_of hb with rfl | rfl
    · exact let ⟨_, k⟩ := z.en; ⟨_, k, nofun⟩
    · obtain ⟨u, k, _, f⟩ := z.iter
      exact ⟨u, k, fun v q => by rw [f] at q; cases q⟩
  keep := by
    intro i h h' z k
    obtain ⟨last, en⟩ := z.en
    exact ⟨⟨last, k e (by simp) _ en⟩, z.iter.at fun u q => k it (by simp) u q, z.ne⟩
  self := by
    intro A i s Q E z q
    obtain ⟨_, en⟩ := z.en
    exact wpAny_pyIter_enum en q
  item := by
    intro X eP ew eK calm i pins s σ H E J free z more
    subst eP ew eK
    obtain ⟨xs, x, seq, at_⟩ := more
    obtain ⟨vals, rel, tup, _⟩ := J.tuple seq
    obtain ⟨val, val_at, val_rel⟩ := rel.get at_
    obtain ⟨na, nb⟩ := z.apart tup
    have below : ∀ b ∈ [e, it], b < s.heap.objs.size := fun b hb => by
      rcases two_of hb with rfl | rfl
      · exact let ⟨_, en⟩ := z.en; Heap.lt_size en
      · exact let ⟨_, q, _⟩ := z.iter; Heap.lt_size q
    have elt := below e List.mem_cons_self
    obtain ⟨last, en⟩ := z.en
    have lt : i < vals.toArray.size := by simpa using (List.getElem?_eq_some_iff.mp val_at).1
    have far : e ∉ [it, a] := by
      intro q
      rcases two_of q with q | q
      · exact z.ne q
      · exact nb q.symm
    have calm1 : X.A.in1.handled = none := J.ok.hd calm
    refine wpAny_pyNext_enum_itemD (Draws.tuple calm1 it a na vals.toArray) en ⟨z.iter, tup⟩ lt z.ne far fun y h1 tk y_at out after tupT _ rest => ?_
    obtain rfl : y = val := by
      have q : vals[i]? = some y := by simpa using y_at
      exact Option.some.inj (q.symm.trans val_at)
    refine ⟨_, rfl, wpAny_letOwnedTupleGo_enum (s := { s with heap := h1, toks := tk + 1 }) out fun h2 en2 but => ?_⟩
    have pairT := (but.2 s.heap.objs.size (Nat.ne_of_gt elt)).trans tupT
    have laid : ObjOk X.prog X.w (upd H s.heap.objs.size (.tup [.int (i : Nat), x])) h2 s.heap.objs.size (.tup [.int (i : Nat), x]) := by
      refine ⟨by show 2 ≤ sizeLine; decide, [.int i tk, y], .cons ⟨_, rfl⟩ (.cons val_rel .nil), _, pairT, rfl, _, rfl⟩
    have kept : ∀ b u, b ∉ [e, it] → s.heap.get? b = some u → h2.get? b = some u := fun b u hb q => by
      have b1 : b ≠ e := fun r => hb (by simp [r])
      have b2 : b ≠ it := fun r => hb (by simp [r])
      exact (but.2 b b1).trans (rest b u b1 b2 q)
    refine ⟨.ref s.heap.objs.size, _, J.turnedNew (ch := [e, it]) kept free (Nat.le_refl _) laid, rfl, ?_, ⟨⟨y, ?_⟩, after.1.at fun u q => (but.2 it z.ne.symm).trans q, z.ne⟩, fun b hb => ?_⟩
    · refine ⟨_, x, rfl, J.hok.fresh (Nat.le_refl _), rfl, fun ys q => ?_⟩
      rw [J.tuple_inj q seq]
      exact at_
    · rw [show ((i + 1 : Nat) : Int) = (i : Int) + 1 from rfl]
      exact en2
    · rw [upd_ne (Nat.ne_of_lt (below b hb))]
      exact (free b hb).1
  done := by
    intro X eP ew eK calm i pins s σ H E J free z none_
    subst eP ew eK
    obtain ⟨xs, seq, le⟩ := none_
    obtain ⟨vals, rel, tup, _⟩ := J.tuple seq
    obtain ⟨last, en⟩ := z.en
    have out : vals.toArray.toList[i]? = none := List.getElem?_eq_none (by show vals.length ≤ i; rw [← rel.length]; exact le)
    obtain ⟨a1, _, a3, a4, a5, a6⟩ := free it (by simp)
    obtain ⟨_, a2, _⟩ := free it (by simp)
    have calm1 : X.A.in1.handled = none := J.ok.hd calm
    exact wpAny_pyNext_enum_endD (draws_end calm1 it a vals.toArray i out) en ⟨rfl, z.iter, tup⟩ fun h1 ext => ⟨rfl, J.turned (t' := s.toks) (fun b u nb q => ext b u nb q) a1 a2 a4 a5 a6⟩
def iEnumT (K : PySem.W.Frag) (ta : TA) : TI := fun σ H R => ta σ H fun vs H1 => ∃ a xs, vs = [.ref a] ∧ SqT K H1 a xs ∧ R (IteT K a) H1
theorem pi_enumT {X : Cx} {e : Expr} {ta : TA} {p pos tp : Pos} {elts : List Expr} {kk : Nat} (T : Tx X.K X.mg) (ha : PA X [e] ta) (hg : Gl X "enumerate" := by rfl) (hs : starEach [e] X.env = [(false, eval e X.env)] := by rfl) :
    PI X (.Tuple elts kk tp) (.Call (.Name "enumerate" p) [e] [] pos) (iEnumT X.K ta) where
  run := by
    intro pins s σ H R J q
    refine Call_ (ld_blt J hg T.b_enumerate boot_enumerate (PyProof.Rows.callWith_type1 (thn (ha.run pos pins s σ H _ J q) fun us t z => ?_) hs rfl))
    obtain ⟨vs, H1, J1, rel, a, xs, rfl, seq, r⟩ := z
    obtain ⟨u, rfl, ru⟩ := rel.one
    cases ru
    obtain ⟨vals, _, tup, _⟩ := J1.tuple seq
    refine en_made (begins_tuple a vals.toArray) tup fun h1 en io keep => wpAny_pyIter_enum en ?_
    have st0 : EnT a (t.heap.objs.size + 1) t.heap.objs.size 0 h1 := ⟨⟨.none, en⟩, ⟨_, io, rfl, rfl⟩, Nat.succ_ne_self _⟩
    refine ⟨t.heap.objs.size + 1, [t.heap.objs.size + 1, t.heap.objs.size], _, _, H1, rfl, J1.kept (t' := t.toks) keep, turn_enT a _ _, st0, fun b hb => ?_, r⟩
    have ge : t.heap.objs.size ≤ b := by
      rcases two_of hb with rfl | rfl
      · exact Nat.le_succ _
      · exact Nat.le_refl _
    exact J1.fpOk ge (J1.hok.fresh ge)
end K6

set_option Elab.async false
set_option linter.all false
set_option maxRecDepth 100000
set_option maxHeartbeats 4000000
set_option autoImplicit false
namespace K6
open PySem PySem.Spec PyProof.Rows L2
open TL (tl len_tl ext_tl)
/-! ### check_list at the law's list -/
theorem walk_enumT {K : PySem.W.Frag} {a : Addr} {xs : List V} : Walk (IteT K a) xs.length (fun H => SqT K H a xs) (YPair (fun i => some (.int (i : Nat))) (fun i => xs[i]?)) where
  goes := fun i _ hi q => ⟨xs, xs[i], q, List.getElem?_eq_getElem hi⟩
  stops := fun _ q => ⟨xs, q, Nat.le_refl _⟩
  yields := by
    rintro i H v H' _ q ⟨p, x, e1, e2, e3, e4⟩
    exact ⟨p, _, x, e1, e2, e3, rfl, e4 xs q⟩
def spBet : Sp := fun vs H Q _ => ∃ v lo hi : Int, vs = [.int v, .int lo, .int hi] ∧ lo ≤ v ∧ v ≤ hi ∧ Q (.bl true) H
def spIsW : Sp := fun vs H Q _ => ∃ (p : Addr) (is : List Int), vs = [.ref p] ∧ H p = some (.tup (is.map V.int)) ∧ 1 ≤ is.length ∧ is.length ≤ 3 ∧ (∀ i ∈ is, 1 ≤ i ∧ i ≤ 8) ∧ ∀ H', Same H H' → Q (.bl true) H'
def spIsR : Sp := fun vs H Q _ => ∃ (p : Addr) (lo hi wd : Int), vs = [.ref p, .int wd] ∧ H p = some (.tup [.int lo, .int hi]) ∧ 0 ≤ lo ∧ lo ≤ hi ∧ hi ≤ wd - 1 ∧ lo ≤ wd - 1 ∧ Q (.bl true) H
/-- a rule of the list over the widths 4, 2 -/
def RuleT (H : Hp) (r : Addr) : Prop := ∃ (a : Int) (f g1 g2 : Addr) (l1 h1 l2 h2 : Int), H r = some (.tup [.int a, .ref f]) ∧ H f = some (.tup [.ref g1, .ref g2]) ∧ H g1 = some (.tup [.int l1, .int h1]) ∧ H g2 = some (.tup [.int l2, .int h2]) ∧
  0 ≤ a ∧ a ≤ 5 ∧ 0 ≤ l1 ∧ l1 ≤ h1 ∧ h1 ≤ 3 ∧ 0 ≤ l2 ∧ l2 ≤ h2 ∧ h2 ≤ 1
theorem RuleT.same {H H' : Hp} {r : Addr} (h : RuleT H r) (e : Same H H') : RuleT H' r := by
  obtain ⟨a, f, g1, g2, l1, h1, l2, h2, q1, q2, q3, q4, q⟩ := h
  exact ⟨a, f, g1, g2, l1, h1, l2, h2, e _ _ q1, e _ _ q2, e _ _ q3, e _ _ q4, q⟩
theorem Listed.rules {H : Hp} {l : Addr} (h : Listed H l) : ∃ (w r r1 r2 : Addr), H l = some (.tup [.ref w, .ref r, .int 0]) ∧ H w = some (.tup [.int 4, .int 2]) ∧ H r = some (.tup [.ref r1, .ref r2]) ∧ RuleT H r1 ∧ RuleT H r2 := by
  obtain ⟨w, r, r1, r2, f1, f2, g1, g2, g3, g4, a, b, c, ⟨d1, d2, d3, d4⟩, e1, e2, e3, e4⟩ := h
  exact ⟨w, r, r1, r2, a, b, c, ⟨1, f1, g1, g2, 0, 1, 0, 1, d1, d2, d3, d4, by decide⟩, ⟨2, f2, g3, g4, 1, 3, 1, 1, e1, e2, e3, e4, by decide⟩⟩
def spIsRule : Sp := fun vs H Q _ => ∃ r w : Addr, vs = [.ref r, .ref w] ∧ RuleT H r ∧ H w = some (.tup [.int 4, .int 2]) ∧ ∀ H', Same H H' → Q (.bl true) H'
def spIsL : Sp := fun vs H Q _ => ∃ l : Addr, vs = [.ref l] ∧ Listed H l ∧ ∀ H', Same H H' → Q (.bl true) H'
section
variable {X : Cx}
theorem pe_all {e : Expr} {te : TE} {p pos : Pos} (T : Tx X.K X.mg) (hc : X.calm = true) (he : PE X e te) (hg : Gl X "all" := by rfl) (h1 : starEach (e :: []) X.env = (false, eval e X.env) :: starEach [] X.env := by rfl)
    (h2 : (backTo pos (starEach [] X.env)).any (·.1) = false := by rfl) : PE X (.Call (.Name "all" p) [e] [] pos) (tCB (rAll X.K) (tCons te tNil)) :=
  pe_callB (cr_all hc) hg T.b_all (by decide +kernel) (pa_cons he pa_nil h1) (by decide) (by decide) h1 h2
end
theorem all_trues (n : Nat) : (List.replicate n true).all id = true := by
  induction n with
  | zero => rfl
  | succ n ih => rw [List.replicate_succ]; exact ih
theorem trues_snoc (n : Nat) : (List.replicate n true).map V.bl ++ [V.bl true] = (List.replicate (n + 1) true).map V.bl := by
  rw [List.replicate_succ', List.map_append]
  rfl
section
variable {P : Program} {w : World} {K : PySem.W.Frag} {mg : Str → Option Value} {base : Heap}
theorem sc_bet : FnScope ["value", "low", "high"] ["value", "low", "high"] (defScope s_is_between) := ⟨rfl, rfl, rfl, by decide +kernel, rfl, by decide +kernel, by decide +kernel⟩
theorem ok_bet (T : Tx K mg) : Df P w K mg base 1 "is_between" ["value", "low", "high"] spBet := by
  refine df_mk T.g_is_between T.d_is_between sc_bet (fun vs H Q E h => ?_) (fun _ _ _ _ _ _ us hl => match us, hl with | [_, _, _], _ => rfl) (fun cdv A outer s H vs Q E hr h => ?_)
  · obtain ⟨v, lo, hi, rfl, _⟩ := h
    rfl
  · obtain ⟨v, lo, hi, rfl, h1, h2, k⟩ := h
    refine ⟨_, pss_one (ps_ret (pe_and (pe_isi (n := "int") T (pv 0) T.b_int (by decide +kernel)) (pe_and (pe_not (pe_isi (n := "bool") T (pv 0) T.b_bool (by decide +kernel))) (pe_one (pe_chain op_le op_le (pv 1) (pv 0) (pv 2)))))), ?_⟩
    refine ⟨_, rfl, _, _, _, _, true, rfl, .ty _, .base (.int v), kit_ty (by decide +kernel), _, rfl, iteT ?_⟩
    refine ⟨_, rfl, _, _, _, _, false, rfl, .ty _, .base (.int v), kit_ty (by decide +kernel), _, rfl, _, rfl, iteT ?_⟩
    refine ⟨_, rfl, _, rfl, _, _, rfl, rfl, _, rfl, ?_⟩
    rw [decide_eq_true h1]
    refine iteT ⟨_, rfl, _, _, rfl, rfl, ?_⟩
    show Q (.bl (decide (v ≤ hi))) H
    rw [decide_eq_true h2]
    exact k
abbrev nIsW : List Str := ["value", "width"]
theorem sc_isw : FnScope nIsW ["value"] (defScope s_is_widths) := ⟨rfl, rfl, rfl, by decide +kernel, rfl, by decide +kernel, by decide +kernel⟩
theorem ok_isw (T : Tx K mg) : Df P w K mg base 2 "is_widths" ["value"] spIsW := by
  have DB : Df P w K mg base 1 "is_between" ["value", "low", "high"] spBet := ok_bet T
  refine df_mk T.g_is_widths T.d_is_widths sc_isw (fun vs H Q E h => ?_) (fun _ _ _ _ _ _ us hl => match us, hl with | [_], _ => rfl) (fun cdv A outer s H vs Q E hr h => ?_)
  · obtain ⟨p, is, rfl, _⟩ := h
    rfl
  · obtain ⟨p, is, rfl, hp, h1, h3, hi, k⟩ := h
    refine ⟨_, pss_cons (ps_if (PW.pt (pw_or (pt_not (pt_val (pe_isi (n := "tuple") T (pv 0) T.b_tuple (by decide +kernel)))) (pw_or1 (pt_not (pt_chain op_le op_le pe_int (pe_lenQ T (pv 0)) (pe_gi T.i_MOST_FIELDS)))))) pss_never pss_nil)
      (pss_one (ps_ret (pe_all T rfl (pe_lc (own := [("width", 1)]) (g := gName 1) (tt := tYes) rfl sc_isw.nd (pi_tup (pv 0)) (blkOk_by (N := nIsW) (sc := defScope s_is_widths) (by decide +kernel)) (fun _ _ _ _ _ => pg_name (i := 1) sc_isw.nd rfl (Or.inl rfl)) (fun _ _ _ _ _ => pts_nil)
        (fun _ _ _ _ _ => pe_d DB hr takes0 (pa_cons (pv 1) (pa_cons pe_int (pa_cons (pe_gi T.i_MOST_WIDTH) pa_nil)))))))), ?_⟩
    refine ⟨_, rfl, _, _, _, _, true, rfl, .ty _, .base (.tup hp), kit_ty (by decide +kernel), _, rfl, iteF ?_⟩
    refine ⟨_, rfl, p, _, rfl, .inr (SqT.of hp), _, _, rfl, rfl, _, rfl, ?_⟩
    rw [decide_eq_true (by rw [List.length_map]; omega)]
    refine iteT ⟨_, _, rfl, rfl, _, rfl, ?_⟩
    rw [decide_eq_true (by rw [List.length_map]; omega)]
    refine iteF ⟨_, rfl, p, rfl, ⟨_, SqT.of hp⟩, fun D hD => ?_⟩
    refine lc_tup (K := K) (a := p) (xs := is.map V.int) (fun i H' => Same H H' ∧ H' D = some (.lst ((List.replicate i true).map V.bl))) ⟨same_new hD, upd_same⟩ (fun i H' _ h => SqT.of (h.1 _ _ hp)) ?_ ?_
    · rintro i x H' hx ⟨sm, hl⟩
      obtain ⟨j, hj, rfl, hm⟩ := map_at hx
      have hij := (List.getElem?_eq_some_iff.mp hj).1
      refine ⟨rfl, _, rfl, j, 1, 8, rfl, (hi j hm).1, (hi j hm).2, _, hl, ?_, s_mut sm hD, ?_⟩
      · refine Evl.sz_lt ?_
        rw [List.length_map, List.length_replicate]
        omega
      · rw [upd_same, trues_snoc]
    · rintro H' ⟨sm, hl⟩
      refine ⟨D, _, rfl, SqL.of hl, ?_⟩
      rw [all_trues]
      exact k H' sm
theorem sc_isr : FnScope ["value", "width"] ["value", "width"] (defScope s_is_range) := ⟨rfl, rfl, rfl, by decide +kernel, rfl, by decide +kernel, by decide +kernel⟩
theorem ok_isr (T : Tx K mg) : Df P w K mg base 2 "is_range" ["value", "width"] spIsR := by
  have DB : Df P w K mg base 1 "is_between" ["value", "low", "high"] spBet := ok_bet T
  refine df_mk T.g_is_range T.d_is_range sc_isr (fun vs H Q E h => ?_) (fun _ _ _ _ _ _ us hl => match us, hl with | [_, _], _ => rfl) (fun cdv A outer s H vs Q E hr h => ?_)
  · obtain ⟨p, lo, hi, wd, rfl, _⟩ := h
    rfl
  · obtain ⟨p, lo, hi, wd, rfl, hp, h1, h2, h3, h4, k⟩ := h
    refine ⟨_, pss_cons (ps_if (PW.pt (pw_or (pt_not (pt_val (pe_isi (n := "tuple") T (pv 0) T.b_tuple (by decide +kernel)))) (pw_or (pt_cmpR op_ne (pe_lenQ T (pv 0)) pe_int (nomark _))
        (pw_or1 (pt_not (pt_val (pe_d DB hr takes0 (pa_cons (pe_ix ix_tup (pv 0) pe_int (fun _ _ => rfl)) (pa_cons pe_int (pa_cons (pe_op op_sub (pv 1) pe_int) pa_nil)))))))))) pss_never pss_nil)
      (pss_one (ps_ret (pe_d DB hr takes0 (pa_cons (pe_ix ix_tup (pv 0) pe_int (fun _ _ => rfl)) (pa_cons (pe_ix ix_tup (pv 0) pe_int (fun _ _ => rfl)) (pa_cons (pe_op op_sub (pv 1) pe_int) pa_nil)))))), ?_⟩
    refine ⟨_, rfl, _, _, _, _, true, rfl, .ty _, .base (.tup hp), kit_ty (by decide +kernel), _, rfl, iteF ?_⟩
    refine ⟨_, rfl, p, _, rfl, .inr (SqT.of hp), rfl, _, rfl, iteF ?_⟩
    refine ⟨_, rfl, p, _, (0 : Nat), _, rfl, rfl, SqT.of hp, atI_nat rfl, _, rfl, _, _, rfl, rfl, lo, 0, wd - 1, rfl, h1, h4, _, rfl, iteF ?_⟩
    exact ⟨_, rfl, p, _, (1 : Nat), _, rfl, rfl, SqT.of hp, atI_nat rfl, _, rfl, p, _, (0 : Nat), _, rfl, rfl, SqT.of hp, atI_nat rfl, _, rfl, _, _, rfl, rfl, hi, lo, wd - 1, rfl, h2, h3, k⟩
abbrev nIsRule : List Str := ["value", "widths", "at", "width"]
theorem sc_isrule : FnScope nIsRule ["value", "widths"] (defScope s_is_rule) := ⟨rfl, rfl, rfl, by decide +kernel, rfl, by decide +kernel, by decide +kernel⟩
theorem ok_isrule (T : Tx K mg) : Df P w K mg base 3 "is_rule" ["value", "widths"] spIsRule := by
  have DB : Df P w K mg base 1 "is_between" ["value", "low", "high"] spBet := ok_bet T
  have DR : Df P w K mg base 2 "is_range" ["value", "width"] spIsR := ok_isr T
  refine df_mk T.g_is_rule T.d_is_rule sc_isrule (fun vs H Q E h => ?_) (fun _ _ _ _ _ _ us hl => match us, hl with | [_, _], _ => rfl) (fun cdv A outer s H vs Q E hr h => ?_)
  · obtain ⟨r, w, rfl, _⟩ := h
    rfl
  · obtain ⟨r, w, rfl, ⟨a, f, g1, g2, l1, h1, l2, h2, q1, q2, q3, q4, b1, b2, b3, b4, b5, b6, b7, b8⟩, hw, k⟩ := h
    have hr1 : Room 1 _ := hr.mono (by decide)
    refine ⟨_, pss_cons (ps_if (PW.pt (pw_or (pt_not (pt_val (pe_isi (n := "tuple") T (pv 0) T.b_tuple (by decide +kernel)))) (pw_or (pt_cmpR op_ne (pe_lenQ T (pv 0)) pe_int (nomark _))
        (pw_or1 (pt_not (pt_val (pe_d DB hr1 takes0 (pa_cons (pe_ix ix_tup (pv 0) pe_int (fun _ _ => rfl)) (pa_cons pe_int (pa_cons (pe_gi T.i_LAST_ACTION) pa_nil)))))))))) pss_never pss_nil)
      (pss_cons (ps_if (PW.pt (pw_or (pt_not (pt_val (pe_isi (n := "tuple") T (pe_ix ix_tup (pv 0) pe_int (fun _ _ => rfl)) T.b_tuple (by decide +kernel)))) (pw_or1 (pt_cmpR op_ne (pe_lenQ T (pe_ix ix_tup (pv 0) pe_int (fun _ _ => rfl))) (pe_lenQ T (pv 1)) (nomark _))))) pss_never pss_nil)
      (pss_one (ps_ret (pe_all T rfl (pe_lc (own := [("at", 2), ("width", 3)]) (g := gTup K 2 (gCons (gName 2) (gCons (gName 3) gNil))) (tt := tYes) (te := tCallS spIsR (WE fun _ _ _ _ => False) (tCons (tOp (rIxT K) (tOp (rIxT K) (tVar 0) (tC (.int 1))) (tVar 2)) (tCons (tVar 3) tNil))) rfl sc_isrule.nd (pi_enumT T (pa_cons (pv 1) pa_nil)) (blkOk_by (N := nIsRule) (sc := defScope s_is_rule) (by decide +kernel))
        (fun _ _ _ _ _ => pg_tup rfl (pgs_cons (pg_name (i := 2) sc_isrule.nd rfl (Or.inl rfl)) (pgs_cons (pg_name (i := 3) sc_isrule.nd rfl (Or.inl rfl)) pgs_nil))) (fun _ _ _ _ _ => pts_nil)
        (fun _ _ _ _ _ => pe_d DR hr takes0 (pa_cons (pe_ix ix_tup (pe_ix ix_tup (pv 0) pe_int (fun _ _ => rfl)) (pv 2) (fun _ _ => rfl)) (pa_cons (pv 3) pa_nil)))))))), ?_⟩
    refine ⟨_, rfl, _, _, _, _, true, rfl, .ty _, .base (.tup q1), kit_ty (by decide +kernel), _, rfl, iteF ?_⟩
    refine ⟨_, rfl, r, _, rfl, .inr (SqT.of q1), rfl, _, rfl, iteF ?_⟩
    refine ⟨_, rfl, r, _, (0 : Nat), _, rfl, rfl, SqT.of q1, atI_nat rfl, a, 0, 5, rfl, b1, b2, _, rfl, iteF ?_⟩
    refine ⟨_, rfl, r, _, (1 : Nat), _, rfl, rfl, SqT.of q1, atI_nat rfl, _, _, _, _, true, rfl, .ty _, .base (.tup q2), kit_ty (by decide +kernel), _, rfl, iteF ?_⟩
    refine ⟨_, rfl, r, _, (1 : Nat), _, rfl, rfl, SqT.of q1, atI_nat rfl, f, _, rfl, .inr (SqT.of q2), _, rfl, w, _, rfl, .inr (SqT.of hw), rfl, _, rfl, iteF ?_⟩
    refine ⟨_, rfl, w, _, rfl, SqT.of hw, fun D hD => ?_⟩
    refine lc_it (walk_enumT (K := K) (a := w) (xs := [.int 4, .int 2])) (fun i H' => Same H H' ∧ H' D = some (.lst ((List.replicate i true).map V.bl))) ⟨same_new hD, upd_same⟩ (fun i H' _ h => SqT.of (h.1 _ _ hw)) ?_ ?_
    · rintro i x H1 H' hi ⟨sm1, hl⟩ ⟨t, u, v, rfl, ht, rfl, hu, hv⟩
      have sm := sm1.trans (same_new (o := .tup [u, v]) ht)
      cases hu
      have hl' := same_new (o := .tup [.int (i : Int), v]) ht _ _ hl
      have ht' : (upd H1 t (.tup [.int (i : Int), v])) t = some (.tup [.int (i : Int), v]) := upd_same
      generalize upd H1 t (.tup [.int (i : Int), v]) = H2 at sm hl' ht'
      refine ⟨t, _, rfl, SqT.of ht', rfl, _, _, rfl, _, _, rfl, rfl, rfl, ?_⟩
      have hi' : i = 0 ∨ i = 1 := by
        have : i < 2 := hi
        omega
      rcases hi' with rfl | rfl
      · cases hv
        refine ⟨_, rfl, r, _, (1 : Nat), _, rfl, rfl, SqT.of (sm _ _ q1), atI_nat rfl, _, rfl, f, _, (0 : Nat), _, rfl, rfl, SqT.of (sm _ _ q2), atI_nat rfl, _, rfl, g1, l1, h1, 4, rfl, sm _ _ q3, b3, b4, by omega, by omega, _, hl', by show 0 < sizeLine; decide, s_mut sm hD, ?_⟩
        rw [upd_same, trues_snoc]
      · cases hv
        refine ⟨_, rfl, r, _, (1 : Nat), _, rfl, rfl, SqT.of (sm _ _ q1), atI_nat rfl, _, rfl, f, _, (1 : Nat), _, rfl, rfl, SqT.of (sm _ _ q2), atI_nat rfl, _, rfl, g2, l2, h2, 2, rfl, sm _ _ q4, b6, b7, by omega, by omega, _, hl', by show 1 < sizeLine; decide, s_mut sm hD, ?_⟩
        rw [upd_same, trues_snoc]
    · rintro H' ⟨sm, hl⟩
      refine ⟨D, _, rfl, SqL.of hl, ?_⟩
      rw [all_trues]
      exact k H' sm
abbrev nIsL : List Str := ["value", "rule"]
theorem sc_isl : FnScope nIsL ["value"] (defScope s_is_list) := ⟨rfl, rfl, rfl, by decide +kernel, rfl, by decide +kernel, by decide +kernel⟩
theorem ok_isl (T : Tx K mg) : Df P w K mg base 4 "is_list" ["value"] spIsL := by
  have DB : Df P w K mg base 1 "is_between" ["value", "low", "high"] spBet := ok_bet T
  have DW : Df P w K mg base 2 "is_widths" ["value"] spIsW := ok_isw T
  have DR : Df P w K mg base 3 "is_rule" ["value", "widths"] spIsRule := ok_isrule T
  refine df_mk T.g_is_list T.d_is_list sc_isl (fun vs H Q E h => ?_) (fun _ _ _ _ _ _ us hl => match us, hl with | [_], _ => rfl) (fun cdv A outer s H vs Q E hr h => ?_)
  · obtain ⟨l, rfl, _⟩ := h
    rfl
  · obtain ⟨l, rfl, hL, k⟩ := h
    obtain ⟨w, r, r1, r2, q1, q2, q3, t1, t2⟩ := hL.rules
    have hr1 : Room 1 _ := hr.mono (by decide)
    have hr2 : Room 2 _ := hr.mono (by decide)
    refine ⟨_, pss_cons (ps_if (PW.pt (pw_or (pt_not (pt_val (pe_isi (n := "tuple") T (pv 0) T.b_tuple (by decide +kernel)))) (pw_or (pt_cmpR op_ne (pe_lenQ T (pv 0)) pe_int (nomark _))
        (pw_or1 (pt_not (pt_val (pe_d DW hr2 takes0 (pa_cons (pe_ix ix_tup (pv 0) pe_int (fun _ _ => rfl)) pa_nil)))))))) pss_never pss_nil)
      (pss_cons (ps_if (PW.pt (pw_or (pt_not (pt_val (pe_isi (n := "tuple") T (pe_ix ix_tup (pv 0) pe_int (fun _ _ => rfl)) T.b_tuple (by decide +kernel)))) (pw_or (pt_cmpR op_gt (pe_lenQ T (pe_ix ix_tup (pv 0) pe_int (fun _ _ => rfl))) (pe_gi T.i_MOST_RULES) (nomark _))
        (pw_or1 (pt_not (pt_val (pe_d DB hr1 takes0 (pa_cons (pe_ix ix_tup (pv 0) pe_int (fun _ _ => rfl)) (pa_cons pe_int (pa_cons (pe_gi T.i_LAST_ACTION) pa_nil)))))))))) pss_never pss_nil)
      (pss_one (ps_ret (pe_all T rfl (pe_lc (own := [("rule", 1)]) (g := gName 1) (tt := tYes) (te := tCallS spIsRule (WE fun _ _ _ _ => False) (tCons (tVar 1) (tCons (tOp (rIxT K) (tVar 0) (tC (.int 0))) tNil))) rfl sc_isl.nd (pi_tup (pe_ix ix_tup (pv 0) pe_int (fun _ _ => rfl))) (blkOk_by (N := nIsL) (sc := defScope s_is_list) (by decide +kernel))
        (fun _ _ _ _ _ => pg_name (i := 1) sc_isl.nd rfl (Or.inl rfl)) (fun _ _ _ _ _ => pts_nil)
        (fun _ _ _ _ _ => pe_d DR hr takes0 (pa_cons (pv 1) (pa_cons (pe_ix ix_tup (pv 0) pe_int (fun _ _ => rfl)) pa_nil)))))))), ?_⟩
    refine ⟨_, rfl, _, _, _, _, true, rfl, .ty _, .base (.tup q1), kit_ty (by decide +kernel), _, rfl, iteF ?_⟩
    refine ⟨_, rfl, l, _, rfl, .inr (SqT.of q1), rfl, _, rfl, iteF ?_⟩
    refine ⟨_, rfl, l, _, (0 : Nat), _, rfl, rfl, SqT.of q1, atI_nat rfl, w, [4, 2], rfl, q2, by decide, by decide, by decide, fun Hw sw => ⟨_, rfl, iteF ?_⟩⟩
    have q1 := sw _ _ q1
    have q2 := sw _ _ q2
    have q3 := sw _ _ q3
    refine ⟨_, rfl, l, _, (1 : Nat), _, rfl, rfl, SqT.of q1, atI_nat rfl, _, _, _, _, true, rfl, .ty _, .base (.tup q3), kit_ty (by decide +kernel), _, rfl, iteF ?_⟩
    refine ⟨_, rfl, l, _, (1 : Nat), _, rfl, rfl, SqT.of q1, atI_nat rfl, r, _, rfl, .inr (SqT.of q3), _, _, rfl, rfl, _, rfl, iteF ?_⟩
    refine ⟨_, rfl, l, _, (2 : Nat), _, rfl, rfl, SqT.of q1, atI_nat rfl, 0, 0, 5, rfl, by decide, by decide, _, rfl, iteF ?_⟩
    refine ⟨_, rfl, l, _, (1 : Nat), _, rfl, rfl, SqT.of q1, atI_nat rfl, r, rfl, ⟨_, SqT.of q3⟩, fun D hD => ?_⟩
    refine lc_tup (K := K) (a := r) (xs := [.ref r1, .ref r2]) (fun i H' => Same Hw H' ∧ H' D = some (.lst ((List.replicate i true).map V.bl))) ⟨same_new hD, upd_same⟩ (fun i H' _ h => SqT.of (h.1 _ _ q3)) ?_ ?_
    · rintro i x H' hx ⟨sm, hl⟩
      refine ⟨rfl, ?_⟩
      have hi := (List.getElem?_eq_some_iff.mp hx).1
      have hi' : i = 0 ∨ i = 1 := by
        have : i < 2 := hi
        omega
      rcases hi' with rfl | rfl
      · cases hx
        refine ⟨_, rfl, _, rfl, l, _, (0 : Nat), _, rfl, rfl, SqT.of (sm _ _ q1), atI_nat rfl, r1, w, rfl, t1.same (sw.trans sm), sm _ _ q2, fun H2 s2 => ⟨_, s2 _ _ hl, by show 0 < sizeLine; decide, s_mut (sm.trans s2) hD, ?_⟩⟩
        rw [upd_same, trues_snoc]
      · cases hx
        refine ⟨_, rfl, _, rfl, l, _, (0 : Nat), _, rfl, rfl, SqT.of (sm _ _ q1), atI_nat rfl, r2, w, rfl, t2.same (sw.trans sm), sm _ _ q2, fun H2 s2 => ⟨_, s2 _ _ hl, by show 1 < sizeLine; decide, s_mut (sm.trans s2) hD, ?_⟩⟩
        rw [upd_same, trues_snoc]
    · rintro H' ⟨sm, hl⟩
      refine ⟨D, _, rfl, SqL.of hl, ?_⟩
      rw [all_trues]
      exact k H' (sw.trans sm)
theorem sc_checkl : FnScope ["listed", "name"] ["listed", "name"] (defScope s_check_list) := ⟨rfl, rfl, rfl, by decide +kernel, rfl, by decide +kernel, by decide +kernel⟩
theorem ok_checkl (T : Tx K mg) : Df P w K mg base 5 "check_list" ["listed", "name"] spCheckL := by
  have DL : Df P w K mg base 4 "is_list" ["value"] spIsL := ok_isl T
  refine df_mk T.g_check_list T.d_check_list sc_checkl (fun vs H Q E h => ?_) (fun _ _ _ _ _ _ us hl => match us, hl with | [_, _], _ => rfl) (fun cdv A outer s H vs Q E hr h => ?_)
  · obtain ⟨l, nm, rfl, _⟩ := h
    rfl
  · obtain ⟨l, nm, rfl, hL, k⟩ := h
    refine ⟨_, pss_one (ps_if (pt_not (pt_val (pe_d DL hr takes0 (pa_cons (pv 0) pa_nil)))) pss_never pss_nil), ?_⟩
    exact ⟨_, rfl, l, rfl, hL, fun H' sm => ⟨_, rfl, iteF (k H' sm)⟩⟩
end
end K6

set_option Elab.async false
set_option linter.all false
set_option maxRecDepth 100000
set_option maxHeartbeats 4000000
set_option autoImplicit false
namespace K6
open PySem PySem.Spec PyProof.Rows L2
open TL (tl len_tl ext_tl)
/-! ### the law's draws -/
def StrAt (H : Hp) (st l : Addr) : Prop := ∃ (a k : Int) (ns : List Int), H st = some (.lst [.ref l, .int a, .int k]) ∧ H l = some (.lst (ns.map V.int)) ∧ 0 ≤ a ∧ 0 ≤ k
theorem StrAt.ne {H : Hp} {st l : Addr} {a k : Int} {ns : List Int} (h1 : H st = some (.lst [.ref l, .int a, .int k])) (h2 : H l = some (.lst (ns.map V.int))) : l ≠ st := by
  intro e
  rw [e, h1] at h2
  have h3 := HO.lst.inj (Option.some.inj h2)
  cases ns with
  | nil => cases h3
  | cons n r => cases h3
theorem StrAt.same {H H' : Hp} {st l : Addr} (h : StrAt H st l) (e : Same H H') : StrAt H' st l := by
  obtain ⟨a, k, ns, h1, h2, h3⟩ := h
  exact ⟨a, k, ns, e _ _ h1, e _ _ h2, h3⟩
theorem StrAt.mut {H : Hp} {st l p : Addr} {o : HO} (h : StrAt H st l) (n1 : p ≠ st) (n2 : p ≠ l) : StrAt (upd H p o) st l := by
  obtain ⟨a, k, ns, h1, h2, h3⟩ := h
  exact ⟨a, k, ns, by rw [upd_ne n1.symm]; exact h1, by rw [upd_ne n2.symm]; exact h2, h3⟩
theorem StrAt.apart {H : Hp} {st l p : Addr} (h : StrAt H st l) (hp : H p = none) : p ≠ st ∧ p ≠ l := by
  obtain ⟨a, k, ns, h1, h2, _⟩ := h
  exact ⟨(ne_of_none h1 hp).symm, (ne_of_none h2 hp).symm⟩
def spStream (K : PySem.W.Frag) : Sp := fun vs H Q _ => ∃ (a : Addr) (ns : List Int), vs = [.ref a] ∧ SqL K H a (ns.map V.int) ∧ ∀ st l H', Same H H' → StrAt H' st l → H st = none → H l = none → Q (.ref st) H'
def spDraw : Sp := fun vs H Q _ => ∃ (st l : Addr) (many : Int), vs = [.ref st, .int many] ∧ 0 < many ∧ many < 1073741824 ∧ StrAt H st l ∧ ∀ (d : Int) H', But st H H' → StrAt H' st l → 0 ≤ d → d < many → Q (.int d) H'
def rListO (K : PySem.W.Frag) : List V → Hp → VK → Prop := fun xs H Q => ∃ p ys, xs = [.ref p] ∧ (SqL K H p ys ∨ SqT K H p ys) ∧ ∀ l, H l = none → Q (.ref l) (upd H l (.lst ys))
section
variable {X : Cx} {e : Expr} {te : TE} {p pos : Pos}
theorem pe_listO (T : Tx X.K X.mg) (he : PE X e te) (hg : Gl X "list" := by rfl) (h1 : starEach (e :: []) X.env = (false, eval e X.env) :: starEach [] X.env := by rfl)
    (h2 : (backTo pos (starEach [] X.env)).any (·.1) = false := by rfl) : PE X (.Call (.Name "list" p) [e] [] pos) (tCB (rListO X.K) (tCons te tNil)) :=
  pe_callTy call_list_of hg T.b_list (by decide +kernel) (pa_cons he pa_nil h1) (by decide) (by decide) h1 h2
def rInt1 : List V → Hp → VK → Prop := fun xs H Q => (∃ i, xs = [.int i] ∧ Q (.int i) H) ∨ ∃ k, xs = [.bl k] ∧ Q (.int (if k then 1 else 0)) H
theorem pe_int1 (T : Tx X.K X.mg) (he : PE X e te) (hg : Gl X "int" := by rfl) (h1 : starEach (e :: []) X.env = (false, eval e X.env) :: starEach [] X.env := by rfl)
    (h2 : (backTo pos (starEach [] X.env)).any (·.1) = false := by rfl) : PE X (.Call (.Name "int" p) [e] [] pos) (tCB rInt1 (tCons te tNil)) :=
  pe_callTy call_int1 hg T.b_int (by decide +kernel) (pa_cons he pa_nil h1) (by decide) (by decide) h1 h2
def rAbs : List V → Hp → VK → Prop := fun xs H Q => ∃ i, xs = [.int i] ∧ Q (.int (if i < 0 then -i else i)) H
theorem pe_abs (T : Tx X.K X.mg) (he : PE X e te) (hg : Gl X "abs" := by rfl) (h1 : starEach (e :: []) X.env = (false, eval e X.env) :: starEach [] X.env := by rfl)
    (h2 : (backTo pos (starEach [] X.env)).any (·.1) = false := by rfl) : PE X (.Call (.Name "abs" p) [e] [] pos) (tCB rAbs (tCons te tNil)) :=
  pe_callB call_abs hg T.b_abs (by decide +kernel) (pa_cons he pa_nil h1) (by decide) (by decide) h1 h2
end
section
variable {P : Program} {w : World} {K : PySem.W.Frag} {mg : Str → Option Value} {base : Heap}
theorem sc_stream : FnScope ["_law_script"] ["_law_script"] (defScope s_l_stream) := ⟨rfl, rfl, rfl, by decide +kernel, rfl, by decide +kernel, by decide +kernel⟩
theorem ok_stream (T : Tx K mg) : Df P w K mg base 1 "_law_stream" ["_law_script"] (spStream K) := by
  refine df_mk T.g_l_stream T.d_l_stream sc_stream (fun vs H Q E h => ?_) (fun _ _ _ _ _ _ us hl => match us, hl with | [_], _ => rfl) (fun cdv A outer s H vs Q E hr h => ?_)
  · obtain ⟨a, ns, rfl, _⟩ := h
    rfl
  · obtain ⟨a, ns, rfl, ha, k⟩ := h
    refine ⟨_, pss_one (ps_ret (pe_lst (pa_cons (pe_listO T (pv 0)) (pa_cons pe_int (pa_cons pe_int pa_nil))))), ?_⟩
    refine ⟨_, rfl, a, _, rfl, .inl ha, fun l hl => ⟨by show 3 ≤ sizeLine; decide, fun st hst => ?_⟩⟩
    have s1 := same_new (o := .lst (ns.map V.int)) hl
    have s2 := same_new (o := .lst [.ref l, .int 0, .int 0]) hst
    exact k st l _ (s1.trans s2) ⟨0, 0, ns, upd_same, s2 _ _ upd_same, by decide, by decide⟩ (s1.free hst) hl
theorem sc_draw : FnScope ["_law_stream_here", "_law_many", "_law_k", "_law_cell", "_law_digit"] ["_law_stream_here", "_law_many"] (defScope s_l_next) := ⟨rfl, rfl, rfl, by decide +kernel, rfl, by decide +kernel, by decide +kernel⟩
theorem ok_draw (T : Tx K mg) : Df P w K mg base 1 "_law_next" ["_law_stream_here", "_law_many"] spDraw := by
  refine df_mk T.g_l_next T.d_l_next sc_draw (fun vs H Q E h => ?_) (fun _ _ _ _ _ _ us hl => match us, hl with | [_, _], _ => rfl) (fun cdv A outer s H vs Q E hr h => ?_)
  · obtain ⟨st, l, many, rfl, _⟩ := h
    rfl
  · obtain ⟨st, l, many, rfl, h1, h2, ⟨a, k, ns, e1, e2, ha, hk⟩, go⟩ := h
    refine ⟨_, Evl.pss_cut (ps_if (pt_cmpR op_eq (pe_ix ix_list (pv 0) pe_int (fun _ _ => rfl)) pe_int (nomark _))
        (pss_cons (ps_set (i := 2) sc_draw.nd rfl (Or.inl rfl) (pe_ix ix_list (pv 0) pe_int (fun _ _ => rfl)))
        (pss_cons (ps_set (i := 3) sc_draw.nd rfl (Or.inl rfl) (pe_op op_add pe_int (pv 2)))
        (Evl.pss_cut (ps_if (pt_cmpR op_lt (pv 2) (pe_lenQ T (pe_ix ix_list (pv 0) pe_int (fun _ _ => rfl))) (nomark _))
          (pss_one (ps_set (i := 3) sc_draw.nd rfl (Or.inl rfl) (pe_abs T (pe_ix ix_list (pe_ix ix_list (pv 0) pe_int (fun _ _ => rfl)) (pv 2) (fun _ _ => rfl))))) pss_nil)
        (Evl.pss_cut (ps_if (pt_cmpR op_lt (pv 3) (pe_op op_pow pe_int pe_int) (nomark _))
          (pss_cons (ps_set (i := 3) sc_draw.nd rfl (Or.inl rfl) (pe_op op_mod (pe_int1 T (pe_op op_add (pe_op op_add (pe_op op_mul (pv 3) pe_int) (pe_op op_mul (pv 2) pe_int)) pe_int)) pe_int))
          (pss_one (ps_set (i := 3) sc_draw.nd rfl (Or.inl rfl) (pe_op op_add (pe_op op_mul (pe_op op_mod (pe_int1 T (pe_op op_add (pe_op op_mul (pv 3) pe_int) pe_int)) pe_int) pe_int) (pv 3))))) pss_nil)
        (pss_cons (ps_asg (pv 3) (pg_sub (pv 0) pe_int set_list))
        (pss_one (ps_asg (pe_op op_add (pv 2) pe_int) (pg_sub (pv 0) pe_int set_list)))))))) pss_nil)
      (pss_cons (ps_set (i := 4) sc_draw.nd rfl (Or.inl rfl) (pe_op op_mod (pe_int1 T (pe_ix ix_list (pv 0) pe_int (fun _ _ => rfl))) (pv 1)))
      (pss_cons (ps_asg (pe_op op_fdiv (pe_ix ix_list (pv 0) pe_int (fun _ _ => rfl)) (pv 1)) (pg_sub (pv 0) pe_int set_list))
      (pss_one (ps_ret (pv 4))))), ?_⟩
    refine ⟨fun σ H' => ∃ (a k : Int) (v w : Option V), σ = [some (.ref st), some (.int many), v, w, none] ∧ But st H H' ∧ H' st = some (.lst [.ref l, .int a, .int k]) ∧ H' l = some (.lst (ns.map V.int)) ∧ 0 ≤ a ∧ 0 ≤ k, ?_, ?_⟩
    · refine ⟨_, rfl, st, _, (1 : Nat), _, rfl, rfl, SqL.of e1, atI_nat rfl, rfl, _, rfl, ?_⟩
      by_cases h0 : a = 0
      · rw [decide_eq_true (congrArg V.int h0)]
        refine iteT ⟨_, rfl, st, _, (2 : Nat), _, rfl, rfl, SqL.of e1, atI_nat rfl, _, rfl, _, _, rfl, rfl, ?_⟩
        refine ⟨fun σ H' => ∃ c : Int, σ = [some (.ref st), some (.int many), some (.int k), some (.int c), none] ∧ H = H' ∧ 0 ≤ c, ?_, ?_⟩
        · refine ⟨_, rfl, _, rfl, st, _, (0 : Nat), _, rfl, rfl, SqL.of e1, atI_nat rfl, l, _, rfl, .inl (SqL.of e2), _, _, rfl, rfl, _, rfl, ?_⟩
          by_cases hlt : k < ((ns.map V.int).length : Int)
          · rw [decide_eq_true hlt]
            obtain ⟨kn, rfl⟩ := Int.eq_ofNat_of_zero_le hk
            have hlt' : kn < ns.length := by
              rw [List.length_map] at hlt
              omega
            refine iteT ⟨_, rfl, st, _, (0 : Nat), _, rfl, rfl, SqL.of e1, atI_nat rfl, _, rfl, l, _, (kn : Nat), _, rfl, rfl, SqL.of e2, atI_nat (by rw [List.getElem?_map, List.getElem?_eq_getElem hlt']; rfl), _, rfl, _, rfl, rfl, ?_⟩
            split <;> omega
          · rw [decide_eq_false hlt]
            exact iteF ⟨_, rfl, rfl, by omega⟩
        · rintro σ H' ⟨c, rfl, rfl, hc⟩
          refine ⟨fun σ H' => ∃ c : Int, σ = [some (.ref st), some (.int many), some (.int k), some (.int c), none] ∧ H = H' ∧ 0 ≤ c, ?_, ?_⟩
          · refine ⟨_, rfl, _, _, rfl, rfl, ⟨by decide, by decide, by decide⟩, _, _, rfl, rfl, _, rfl, ?_⟩
            by_cases hlt : c < 10 ^ (18 : Int).toNat
            · rw [decide_eq_true hlt]
              refine iteT ⟨_, rfl, _, _, rfl, rfl, .inr (by decide), _, rfl, _, _, rfl, rfl, .inr (by decide), _, _, rfl, rfl, _, _, rfl, rfl, .inl ⟨_, rfl, _, _, rfl, rfl, by show (0 : Int) < 2147483647; decide, ?_⟩⟩
              refine ⟨_, rfl, _, _, rfl, rfl, .inr (by decide), _, _, rfl, rfl, .inl ⟨_, rfl, _, _, rfl, rfl, by show (0 : Int) < 2147483647; decide, _, _, rfl, rfl, .inr (by decide), _, rfl, _, _, rfl, rfl, _, rfl, rfl, ?_⟩⟩
              omega
            · rw [decide_eq_false hlt]
              exact iteF ⟨_, rfl, rfl, hc⟩
          · rintro σ H' ⟨c, rfl, rfl, hc⟩
            have hne := StrAt.ne e1 e2
            refine ⟨_, rfl, _, rfl, st, _, _, (1 : Nat), rfl, rfl, e1, rfl, _, rfl, _, _, rfl, rfl, _, rfl, st, _, _, (2 : Nat), rfl, rfl, upd_same, rfl, ?_⟩
            refine ⟨c, k + 1, _, _, rfl, but_upd.trans but_upd, ?_, ?_, hc, by omega⟩
            · rw [upd_same]
              rfl
            · rw [upd_ne hne, upd_ne hne]
              exact e2
      · rw [decide_eq_false (fun z => h0 (V.int.inj z))]
        exact iteF ⟨a, k, none, none, rfl, But.refl _ _, e1, e2, ha, hk⟩
    · rintro σ H' ⟨a, k, v, w, rfl, bt, e1, e2, ha, hk⟩
      have hne := StrAt.ne e1 e2
      refine ⟨_, rfl, st, _, (1 : Nat), _, rfl, rfl, SqL.of e1, atI_nat rfl, .inl ⟨_, rfl, _, rfl, _, _, rfl, rfl, h1, ?_⟩⟩
      refine ⟨_, rfl, st, _, (1 : Nat), _, rfl, rfl, SqL.of e1, atI_nat rfl, _, rfl, _, _, rfl, rfl, ⟨h1, h2⟩, _, rfl, st, _, _, (1 : Nat), rfl, rfl, e1, rfl, ?_⟩
      refine ⟨_, rfl, ?_⟩
      refine go _ _ (bt.trans but_upd) ⟨a / many, k, ns, ?_, ?_, Int.ediv_nonneg ha (Int.le_of_lt h1), hk⟩ (Int.emod_nonneg _ (by omega)) (Int.emod_lt_of_pos _ h1)
      · rw [upd_same]
        rfl
      · rw [upd_ne hne]
        exact e2
end
end K6

set_option Elab.async false
set_option linter.all false
set_option maxRecDepth 100000
set_option maxHeartbeats 4000000
set_option autoImplicit false
namespace K6
open PySem PySem.Spec PyProof.Rows L2
open TL (tl len_tl ext_tl)
/-! ### the law's small helpers -/
def spPick : Sp := fun vs H Q _ => ∃ (st l r : Addr) (xs : List V), vs = [.ref st, .ref r] ∧ StrAt H st l ∧ H r = some (.lst xs) ∧ r ≠ st ∧ 0 < xs.length ∧ xs.length ≤ 1000 ∧ ∀ (i : Nat) x H', But st H H' → StrAt H' st l → xs[i]? = some x → Q x H'
def kindsV : List V := kds.map fun k => .str k.law
def spKinds : Sp := fun vs H Q _ => vs = [] ∧ ∀ q, H q = none → Q (.ref q) (upd H q (.lst kindsV))
def spShownL : Sp := fun vs H Q _ => ∃ k : Kd, vs = [.str k.law] ∧ ∀ H', Same H H' → Q (.str k.shown) H'
def spTokL : Sp := fun vs H Q _ => ∃ (st l : Addr) (k : Kd), vs = [.ref st, .str k.law] ∧ StrAt H st l ∧ k ≠ .fin ∧ ∀ x H', But st H H' → StrAt H' st l → Wd k x → Q (.str x) H'
theorem law_num : ∀ k ∈ kds, decide (V.str k.law = V.str "number") = decide (k = .num) := by decide +kernel
theorem law_len : ∀ k ∈ kds, k.law.length ≤ 7 := by decide +kernel
def shownK : List (Key × V) := [(Sum.inr "number", V.str "a number"), (Sum.inr "if", .str "if"), (Sum.inr "else", .str "else"), (Sum.inr "end", .str "the end")]
theorem shown_get : ∀ k ∈ kds, (valV (mergeK [] shownK) (Sum.inr k.law)).getD (.str ("\"" ++ k.law ++ "\"")) = .str k.shown := by decide +kernel
section
variable {P : Program} {w : World} {K : PySem.W.Frag} {mg : Str → Option Value} {base : Heap}
theorem sc_pick : FnScope ["_law_stream_here", "_law_rows"] ["_law_stream_here", "_law_rows"] (defScope s_l_pick) := ⟨rfl, rfl, rfl, by decide +kernel, rfl, by decide +kernel, by decide +kernel⟩
theorem ok_pick (T : Tx K mg) : Df P w K mg base 2 "_law_pick" ["_law_stream_here", "_law_rows"] spPick := by
  have DD : Df P w K mg base 1 "_law_next" ["_law_stream_here", "_law_many"] spDraw := ok_draw T
  refine df_mk T.g_l_pick T.d_l_pick sc_pick (fun vs H Q E h => ?_) (fun _ _ _ _ _ _ us hl => match us, hl with | [_, _], _ => rfl) (fun cdv A outer s H vs Q E hr h => ?_)
  · obtain ⟨st, l, r, xs, rfl, _⟩ := h
    rfl
  · obtain ⟨st, l, r, xs, rfl, hst, hr', hne, h0, h1, k⟩ := h
    refine ⟨_, pss_one (ps_ret (pe_ix ix_list (pv 1) (pe_d DD hr takes0 (pa_cons (pv 0) (pa_cons (pe_lenQ T (pv 1)) pa_nil))) (fun _ _ => rfl))), ?_⟩
    refine ⟨_, rfl, _, rfl, _, rfl, r, _, rfl, .inl (SqL.of hr'), st, l, _, rfl, by omega, by omega, hst, fun d H' bt hs' d0 d1 => ?_⟩
    obtain ⟨dn, rfl⟩ := Int.eq_ofNat_of_zero_le d0
    have hd : dn < xs.length := by omega
    exact ⟨r, _, (dn : Nat), _, rfl, rfl, SqL.of (bt _ _ hne hr'), atI_nat (List.getElem?_eq_getElem hd), k dn _ _ bt hs' (List.getElem?_eq_getElem hd)⟩
theorem sc_kinds : FnScope [] [] (defScope s_l_kinds) := ⟨rfl, rfl, rfl, by decide +kernel, rfl, by decide +kernel, by decide +kernel⟩
theorem ok_kinds (T : Tx K mg) : Df P w K mg base 1 "_law_kinds" [] spKinds := by
  refine df_mk T.g_l_kinds T.d_l_kinds sc_kinds (fun vs H Q E h => ?_) (fun _ _ _ _ _ _ us hl => match us, hl with | [], _ => rfl) (fun cdv A outer s H vs Q E hr h => ?_)
  · rw [h.1]
    rfl
  · obtain ⟨rfl, k⟩ := h
    refine ⟨_, pss_one (ps_ret (pe_lst (pa_cons pe_str (pa_cons pe_str (pa_cons pe_str (pa_cons pe_str (pa_cons pe_str (pa_cons pe_str (pa_cons pe_str (pa_cons pe_str pa_nil)))))))))), ?_⟩
    exact ⟨by show 8 ≤ sizeLine; decide, fun q hq => k q hq⟩
theorem sc_shownl : FnScope ["_law_kind"] ["_law_kind"] (defScope s_l_shown) := ⟨rfl, rfl, rfl, by decide +kernel, rfl, by decide +kernel, by decide +kernel⟩
theorem ok_shownl (T : Tx K mg) : Df P w K mg base 1 "_law_shown" ["_law_kind"] spShownL := by
  refine df_mk T.g_l_shown T.d_l_shown sc_shownl (fun vs H Q E h => ?_) (fun _ _ _ _ _ _ us hl => match us, hl with | [_], _ => rfl) (fun cdv A outer s H vs Q E hr h => ?_)
  · obtain ⟨kd, rfl, _⟩ := h
    rfl
  · obtain ⟨kd, rfl, k⟩ := h
    have hu := hu_of hr
    refine ⟨_, pss_one (ps_ret (pe_dget2 hu (pe_disp (pps_cons pe_str pe_str (pps_cons pe_str pe_str (pps_cons pe_str pe_str (pps_cons pe_str pe_str pps_nil)))) (by rfl) (by rfl) (fun z => by cases z) (by decide)) (pv 0)
      (pe_op op_add_str (pe_op op_add_str pe_str (pv 0)) pe_str) ⟨rfl, rfl, rfl, rfl⟩)), ?_⟩
    intro p hp
    refine ⟨upd_same, shownK, rfl, by show 4 ≤ 15; decide, ?_⟩
    rw [upd_upd]
    have e1 : (upd H p (.dK (mergeK [] shownK))) p = some (.dK (mergeK [] shownK)) := upd_same
    have sm : Same H (upd H p (.dK (mergeK [] shownK))) := same_new hp
    generalize upd H p (.dK (mergeK [] shownK)) = H1 at e1 sm ⊢
    have hq : ("\"" : Str).length = 1 := by decide +kernel
    have hl := law_len kd (all_kds kd)
    refine ⟨p, rfl, .inl ⟨_, .inl e1⟩, _, rfl, _, rfl, _, _, rfl, rfl, Evl.sz_of (by omega), _, _, rfl, rfl, Evl.sz_of (by rw [len_app]; omega), _, DGet.k (k := Sum.inr kd.law) e1, ?_⟩
    have e2 := shown_get kd (all_kds kd)
    show Q ((valV (mergeK [] shownK) (Sum.inr kd.law)).getD (.str ("\"" ++ kd.law ++ "\""))) H1
    rw [e2]
    exact k H1 sm
theorem sc_tokl : FnScope ["_law_stream_here", "_law_kind"] ["_law_stream_here", "_law_kind"] (defScope s_l_token) := ⟨rfl, rfl, rfl, by decide +kernel, rfl, by decide +kernel, by decide +kernel⟩
theorem ok_tokl (T : Tx K mg) : Df P w K mg base 3 "_law_token" ["_law_stream_here", "_law_kind"] spTokL := by
  have DP : Df P w K mg base 2 "_law_pick" ["_law_stream_here", "_law_rows"] spPick := ok_pick T
  refine df_mk T.g_l_token T.d_l_token sc_tokl (fun vs H Q E h => ?_) (fun _ _ _ _ _ _ us hl => match us, hl with | [_, _], _ => rfl) (fun cdv A outer s H vs Q E hr h => ?_)
  · obtain ⟨st, l, kd, rfl, _⟩ := h
    rfl
  · obtain ⟨st, l, kd, rfl, hst, hf, k⟩ := h
    refine ⟨_, pss_one (ps_ret (pe_ifExp (pt_cmpR op_eq (pv 1) pe_str (nomark _)) (pe_d DP hr takes0 (pa_cons (pv 0) (pa_cons (pe_lst (pa_cons pe_str (pa_cons pe_str (pa_cons pe_str (pa_cons pe_str (pa_cons pe_str pa_nil)))))) pa_nil))) (pv 1))), ?_⟩
    refine ⟨_, rfl, rfl, _, rfl, ?_⟩
    rw [show decide (V.str kd.law = V.str (Str.ofString "number")) = decide (kd = .num) from law_num _ (all_kds _)]
    by_cases hk : kd = .num
    · subst hk
      rw [decide_eq_true rfl]
      refine iteT ⟨_, rfl, by show 5 ≤ sizeLine; decide, fun r hr' => ?_⟩
      have sm := same_new (o := .lst [V.str "0", .str "1", .str "3", .str "9", .str "000005"]) hr'
      refine ⟨st, l, r, _, rfl, hst.same sm, upd_same, (hst.apart hr').1, by show 0 < 5; decide, by show 5 ≤ 1000; decide, fun i x H' bt hs' hi => ?_⟩
      obtain ⟨y, rfl, hy⟩ : ∃ y : Str, x = .str y ∧ y ∈ nums := by
        have hm := List.mem_of_getElem? hi
        simp only [List.mem_cons, List.not_mem_nil, or_false] at hm
        rcases hm with rfl | rfl | rfl | rfl | rfl <;> exact ⟨_, rfl, by decide +kernel⟩
      exact k y H' (s_thenBut sm bt) hs' (.inl ⟨rfl, hy⟩)
    · rw [decide_eq_false hk]
      exact iteF ⟨_, rfl, k _ H (But.refl _ _) hst (.inr ⟨hk, hf, rfl⟩)⟩
end
end K6

set_option Elab.async false
set_option linter.all false
set_option maxRecDepth 100000
set_option maxHeartbeats 4000000
set_option autoImplicit false
namespace K6
open PySem PySem.Spec PyProof.Rows L2
open TL (tl len_tl ext_tl)
/-! ### listed, equal -/
/-- the same data -/
def EqZ (x y : V) : Prop := (∃ i, x = .int i ∧ y = .int i) ∨ ∃ s, x = .str s ∧ y = .str s
def EqD : Nat → Hp → V → V → Prop
  | 0, _, x, y => EqZ x y
  | n + 1, H, x, y => EqZ x y ∨ ∃ (p q : Addr) (xs ys : List V), x = .ref p ∧ y = .ref q ∧ ((H p = some (.lst xs) ∧ H q = some (.lst ys)) ∨ (H p = some (.tup xs) ∧ H q = some (.tup ys))) ∧ xs.length = ys.length ∧ ys.length ≤ 1000 ∧
      ∀ (i : Nat) a b, xs[i]? = some a → ys[i]? = some b → EqD n H a b
theorem EqD.same {H H' : Hp} (e : Same H H') : ∀ {n : Nat} {x y : V}, EqD n H x y → EqD n H' x y
  | 0, _, _, h => h
  | n + 1, _, _, .inl h => .inl h
  | n + 1, _, _, .inr ⟨p, q, xs, ys, h1, h2, h3, h4, h5, h6⟩ => .inr ⟨p, q, xs, ys, h1, h2, h3.imp (fun z => ⟨e _ _ z.1, e _ _ z.2⟩) (fun z => ⟨e _ _ z.1, e _ _ z.2⟩), h4, h5, fun i a b ha hb => (h6 i a b ha hb).same e⟩
def spEq (n : Nat) : Sp := fun vs H Q _ => ∃ x y : V, vs = [x, y] ∧ EqD n H x y ∧ ∀ H', Same H H' → Q (.bl true) H'
def spIsI : Sp := fun vs H Q _ => ∃ i : Int, vs = [.int i] ∧ Q (.bl true) H
section
variable {P : Program} {w : World} {K : PySem.W.Frag} {mg : Str → Option Value} {base : Heap}
theorem sc_listed : FnScope ["_law_words"] ["_law_words"] (defScope s_l_listed) := ⟨rfl, rfl, rfl, by decide +kernel, rfl, by decide +kernel, by decide +kernel⟩
theorem ok_listed (T : Tx K mg) : Df P w K mg base 1 "_law_listed" ["_law_words"] spJoined := by
  refine df_mk T.g_l_listed T.d_l_listed sc_listed (fun vs H Q E h => ?_) (fun _ _ _ _ _ _ us hl => match us, hl with | [_], _ => rfl) (fun cdv A outer s H vs Q E hr h => ?_)
  · obtain ⟨q, os, rfl, _⟩ := h
    rfl
  · obtain ⟨q, os, rfl, hq, hne, hl, hx, k⟩ := h
    refine ⟨_, pss_cons (ps_if (pt_cmpR op_eq (pe_lenQ T (pv 0)) pe_int (nomark _)) (pss_one (ps_ret (pe_ix ix_list (pv 0) pe_int (fun _ _ => rfl)))) pss_nil)
      (pss_one (ps_ret (pe_op op_add_str (pe_op op_add_str (pe_join pe_str (pe_slice sl_list (pv 0) po_none (po_some (pe_un un_neg pe_int)))) pe_str) (pe_ix ix_list (pv 0) (pe_un un_neg pe_int) (fun _ _ => rfl))))), ?_⟩
    refine ⟨_, rfl, q, _, rfl, .inl (SqL.of hq), rfl, _, rfl, ?_⟩
    by_cases h1 : os.length = 1
    · have e1 : decide (V.int ((os.map V.str).length : Int) = V.int 1) = true := decide_eq_true (by rw [List.length_map, h1]; rfl)
      rw [e1]
      have hj : joinW os = os.headD "" := if_pos h1
      have k' := k H (Same.refl H)
      rw [hj] at k'
      match os, h1, hq, k' with
      | [x], _, hq, k' => exact iteT ⟨_, rfl, q, _, (0 : Nat), _, rfl, rfl, SqL.of hq, atI_nat rfl, k'⟩
    · have e1 : decide (V.int ((os.map V.str).length : Int) = V.int 1) = false := decide_eq_false (fun z => h1 (by
        have z2 := V.int.inj z
        rw [List.length_map] at z2
        omega))
      rw [e1]
      obtain ⟨y, l, el⟩ : ∃ y l, os = l ++ [y] := ⟨os.getLast hne, os.dropLast, (List.dropLast_concat_getLast hne).symm⟩
      have hcut : cutV (os.map V.str) none (some (-(1 : Int))) = l.map V.str := by
        unfold cutV
        have e2 : HT.sIx (os.map V.str).length 0 none = 0 := rfl
        have e3 : HT.sIx (os.map V.str).length (os.map V.str).length (some (-(1 : Int))) = (os.map V.str).length - 1 := by
          show (if (-(1 : Int)) < 0 then (-(1 : Int) + ((os.map V.str).length : Int)).toNat else min (-(1 : Int)).toNat (os.map V.str).length) = _
          rw [if_pos (by decide)]
          omega
        rw [e2, e3, List.drop_zero, el, List.map_append, List.length_append]
        show List.take ((l.map V.str).length + 1 - 1 - 0) _ = _
        rw [show (l.map V.str).length + 1 - 1 - 0 = (l.map V.str).length by omega, List.take_left]
      have hll : l.length ≤ 20 := by
        rw [el, List.length_append] at hl
        omega
      have hlx : ∀ x ∈ l, x.length ≤ 20 := fun x hm => hx x (by rw [el]; exact List.mem_append_left _ hm)
      have hyx : y.length ≤ 20 := hx y (by rw [el]; simp)
      have hsm := sum_le l hlx
      have hc2 : (", " : Str).length = 2 := by decide +kernel
      have ho4 : (" or " : Str).length = 4 := by decide +kernel
      have hmul : l.length * 20 ≤ 20 * 20 := Nat.mul_le_mul_right 20 hll
      have hm2 : l.length * (", " : Str).length ≤ 20 * 2 := by
        rw [hc2]
        exact Nat.mul_le_mul_right 2 hll
      have hjl := joinT_len ", " l
      have hj : joinW os = Txt.join ", " l ++ " or " ++ y := by
        unfold joinW
        rw [if_neg h1, el, List.dropLast_concat]
        simp
      refine iteF ⟨⟨_, rfl⟩, _, rfl, 1, rfl, _, rfl, q, _, rfl, SqL.of hq, fun p hp => ?_⟩
      have sm := same_new (o := .lst (cutV (os.map V.str) none (some (-(1 : Int))))) hp
      rw [hcut] at sm ⊢
      refine ⟨_, p, l, rfl, rfl, .inl (SqL.of upd_same), by omega, _, _, rfl, rfl, Evl.sz_of (by omega), ?_⟩
      refine ⟨_, rfl, 1, rfl, q, _, _, .str y, rfl, rfl, SqL.of (sm _ _ hq), ?_, _, _, rfl, rfl, Evl.sz_of (by rw [len_app]; omega), ?_⟩
      · rw [el, List.map_append]
        exact atI_last _ _
      · rw [← hj]
        exact k _ sm
theorem sc_isint : FnScope ["_law_actual"] ["_law_actual"] (defScope s_l_is_integer) := ⟨rfl, rfl, rfl, by decide +kernel, rfl, by decide +kernel, by decide +kernel⟩
theorem ok_isint (T : Tx K mg) : Df P w K mg base 1 "_law_is_integer" ["_law_actual"] spIsI := by
  refine df_mk T.g_l_is_integer T.d_l_is_integer sc_isint (fun vs H Q E h => ?_) (fun _ _ _ _ _ _ us hl => match us, hl with | [_], _ => rfl) (fun cdv A outer s H vs Q E hr h => ?_)
  · obtain ⟨i, rfl, _⟩ := h
    rfl
  · obtain ⟨i, rfl, k⟩ := h
    refine ⟨_, pss_one (ps_ret (pe_and (pe_isi (n := "int") T (pv 0) T.b_int (by decide +kernel)) (pe_one (pe_not (pe_isi (n := "bool") T (pv 0) T.b_bool (by decide +kernel)))))), ?_⟩
    refine ⟨_, rfl, _, _, _, _, true, rfl, .ty _, .base (.int i), kit_ty (by decide +kernel), _, rfl, iteT ?_⟩
    exact ⟨_, rfl, _, _, _, _, false, rfl, .ty _, .base (.int i), kit_ty (by decide +kernel), _, rfl, k⟩
abbrev nEq : List Str := ["_law_actual", "_law_due_here", "_law_at"]
theorem sc_equal : FnScope nEq ["_law_actual", "_law_due_here"] (defScope s_l_equal) := ⟨rfl, rfl, rfl, by decide +kernel, rfl, by decide +kernel, by decide +kernel⟩
/-- its first half, on numbers and texts -/
theorem ok_equal0 (T : Tx K mg) : Df P w K mg base 2 "_law_equal" ["_law_actual", "_law_due_here"] (spEq 0) := by
  have DI : Df P w K mg base 1 "_law_is_integer" ["_law_actual"] spIsI := ok_isint T
  refine df_mk T.g_l_equal T.d_l_equal sc_equal (fun vs H Q E h => ?_) (fun _ _ _ _ _ _ us hl => match us, hl with | [_, _], _ => rfl) (fun cdv A outer s H vs Q E hr h => ?_)
  · obtain ⟨x, y, rfl, _⟩ := h
    rfl
  · obtain ⟨x, y, rfl, hd, k⟩ := h
    refine ⟨_, pss_cons (ps_if (pt_cmpR op_isN (pv 1) pe_non (nomark _)) pss_never pss_nil)
      (pss_cons (ps_if (pt_val (pe_isi (n := "bool") T (pv 1) T.b_bool (by decide +kernel))) pss_never pss_nil)
      (pss_cons (ps_if (pt_val (pe_isi (n := "int") T (pv 1) T.b_int (by decide +kernel))) (pss_one (ps_ret (pe_and (pe_d DI hr takes0 (pa_cons (pv 0) pa_nil)) (pe_one (pe_cmpR op_eq (pv 0) (pv 1) (nomark _)))))) pss_nil)
      (pss_cons (ps_if (pt_val (pe_isi (n := "str") T (pv 1) T.b_str (by decide +kernel))) (pss_one (ps_ret (pe_and (pe_isi (n := "str") T (pv 0) T.b_str (by decide +kernel)) (pe_one (pe_cmpR op_eq (pv 0) (pv 1) (nomark _)))))) pss_nil)
      pss_never))), ?_⟩
    rcases hd with ⟨i, rfl, rfl⟩ | ⟨s, rfl, rfl⟩
    · refine ⟨_, rfl, rfl, _, rfl, iteF ?_⟩
      refine ⟨_, rfl, _, _, _, _, false, rfl, .ty _, .base (.int i), kit_ty (by decide +kernel), _, rfl, iteF ?_⟩
      refine ⟨_, rfl, _, _, _, _, true, rfl, .ty _, .base (.int i), kit_ty (by decide +kernel), _, rfl, iteT ?_⟩
      have k' : Q (.bl (decide (V.int i = V.int i))) H := by
        rw [decide_eq_true rfl]
        exact k H (Same.refl H)
      exact ⟨_, rfl, i, rfl, _, rfl, iteT ⟨_, rfl, _, rfl, rfl, k'⟩⟩
    · refine ⟨_, rfl, rfl, _, rfl, iteF ?_⟩
      refine ⟨_, rfl, _, _, _, _, false, rfl, .ty _, .base (.str s), kit_ty (by decide +kernel), _, rfl, iteF ?_⟩
      refine ⟨_, rfl, _, _, _, _, false, rfl, .ty _, .base (.str s), kit_ty (by decide +kernel), _, rfl, iteF ?_⟩
      refine ⟨_, rfl, _, _, _, _, true, rfl, .ty _, .base (.str s), kit_ty (by decide +kernel), _, rfl, iteT ?_⟩
      have k' : Q (.bl (decide (V.str s = V.str s))) H := by
        rw [decide_eq_true rfl]
        exact k H (Same.refl H)
      exact ⟨_, rfl, _, _, _, _, true, rfl, .ty _, .base (.str s), kit_ty (by decide +kernel), _, rfl, iteT ⟨_, rfl, _, rfl, rfl, k'⟩⟩
theorem ok_equalS (T : Tx K mg) {n : Nat} (D0 : Df P w K mg base (n + 2) "_law_equal" ["_law_actual", "_law_due_here"] (spEq n)) : Df P w K mg base (n + 3) "_law_equal" ["_law_actual", "_law_due_here"] (spEq (n + 1)) := by
  have DI : Df P w K mg base 1 "_law_is_integer" ["_law_actual"] spIsI := ok_isint T
  refine df_mk T.g_l_equal T.d_l_equal sc_equal (fun vs H Q E h => ?_) (fun _ _ _ _ _ _ us hl => match us, hl with | [_, _], _ => rfl) (fun cdv A outer s H vs Q E hr h => ?_)
  · obtain ⟨x, y, rfl, _⟩ := h
    rfl
  · obtain ⟨x, y, rfl, hd, k⟩ := h
    have hr1 : Room 1 _ := hr.mono (by omega)
    refine ⟨_, pss_cons (ps_if (pt_cmpR op_isN (pv 1) pe_non (nomark _)) pss_never pss_nil)
      (pss_cons (ps_if (pt_val (pe_isi (n := "bool") T (pv 1) T.b_bool (by decide +kernel))) pss_never pss_nil)
      (pss_cons (ps_if (pt_val (pe_isi (n := "int") T (pv 1) T.b_int (by decide +kernel))) (pss_one (ps_ret (pe_and (pe_d DI hr1 takes0 (pa_cons (pv 0) pa_nil)) (pe_one (pe_cmpR op_eq (pv 0) (pv 1) (nomark _)))))) pss_nil)
      (pss_cons (ps_if (pt_val (pe_isi (n := "str") T (pv 1) T.b_str (by decide +kernel))) (pss_one (ps_ret (pe_and (pe_isi (n := "str") T (pv 0) T.b_str (by decide +kernel)) (pe_one (pe_cmpR op_eq (pv 0) (pv 1) (nomark _)))))) pss_nil)
      (pss_cons (ps_if (PW.pt (pw_and (pt_val (pe_isi (n := "tuple") T (pv 1) T.b_tuple (by decide +kernel))) (pw_and1 (pt_not (pt_val (pe_isi (n := "tuple") T (pv 0) T.b_tuple (by decide +kernel))))))) pss_never pss_nil)
      (pss_cons (ps_if (PW.pt (pw_and (pt_val (pe_isi (n := "list") T (pv 1) T.b_list (by decide +kernel))) (pw_and1 (pt_not (pt_val (pe_isi (n := "list") T (pv 0) T.b_list (by decide +kernel))))))) pss_never pss_nil)
      (pss_cons (ps_if (pt_cmpR op_ne (pe_lenQ T (pv 0)) (pe_lenQ T (pv 1)) (nomark _)) pss_never pss_nil)
      (pss_one (ps_ret (pe_all T rfl (pe_lc (own := [("_law_at", 2)]) (g := gName 2) (tt := tYes) (te := tCallS (spEq n) (WE fun _ _ _ _ => False) (tCons (tOp (fun x y H Q => rIxL K x y H Q ∨ rIxT K x y H Q) (tVar 0) (tVar 2)) (tCons (tOp (fun x y H Q => rIxL K x y H Q ∨ rIxT K x y H Q) (tVar 1) (tVar 2)) tNil)))
          rfl sc_equal.nd (pi_range1 rfl T.b_range (pa_cons (pe_lenQ T (pv 1)) pa_nil)) (blkOk_by (N := nEq) (sc := defScope s_l_equal) (by decide +kernel)) (fun _ _ _ _ _ => pg_name (i := 2) sc_equal.nd rfl (Or.inl rfl)) (fun _ _ _ _ _ => pts_nil)
        (fun _ _ _ _ _ => pe_d D0 hr takes0 (pa_cons (pe_ix (ix_list.or ix_tup) (pv 0) (pv 2) (fun _ _ => rfl)) (pa_cons (pe_ix (ix_list.or ix_tup) (pv 1) (pv 2) (fun _ _ => rfl)) pa_nil))))))))))))), ?_⟩
    rcases hd with (⟨i, rfl, rfl⟩ | ⟨s, rfl, rfl⟩) | ⟨p, q, xs, ys, rfl, rfl, hpq, hlen, hz, hat⟩
    · refine ⟨_, rfl, rfl, _, rfl, iteF ?_⟩
      refine ⟨_, rfl, _, _, _, _, false, rfl, .ty _, .base (.int i), kit_ty (by decide +kernel), _, rfl, iteF ?_⟩
      refine ⟨_, rfl, _, _, _, _, true, rfl, .ty _, .base (.int i), kit_ty (by decide +kernel), _, rfl, iteT ?_⟩
      have k' : Q (.bl (decide (V.int i = V.int i))) H := by
        rw [decide_eq_true rfl]
        exact k H (Same.refl H)
      exact ⟨_, rfl, i, rfl, _, rfl, iteT ⟨_, rfl, _, rfl, rfl, k'⟩⟩
    · refine ⟨_, rfl, rfl, _, rfl, iteF ?_⟩
      refine ⟨_, rfl, _, _, _, _, false, rfl, .ty _, .base (.str s), kit_ty (by decide +kernel), _, rfl, iteF ?_⟩
      refine ⟨_, rfl, _, _, _, _, false, rfl, .ty _, .base (.str s), kit_ty (by decide +kernel), _, rfl, iteF ?_⟩
      refine ⟨_, rfl, _, _, _, _, true, rfl, .ty _, .base (.str s), kit_ty (by decide +kernel), _, rfl, iteT ?_⟩
      have k' : Q (.bl (decide (V.str s = V.str s))) H := by
        rw [decide_eq_true rfl]
        exact k H (Same.refl H)
      exact ⟨_, rfl, _, _, _, _, true, rfl, .ty _, .base (.str s), kit_ty (by decide +kernel), _, rfl, iteT ⟨_, rfl, _, rfl, rfl, k'⟩⟩
    · refine ⟨_, rfl, rfl, _, rfl, iteF ?_⟩
      rcases hpq with ⟨hp, hq⟩ | ⟨hp, hq⟩
      · refine ⟨_, rfl, _, _, _, _, false, rfl, .ty _, .base (.lst hq), kit_ty (by decide +kernel), _, rfl, iteF ?_⟩
        refine ⟨_, rfl, _, _, _, _, false, rfl, .ty _, .base (.lst hq), kit_ty (by decide +kernel), _, rfl, iteF ?_⟩
        refine ⟨_, rfl, _, _, _, _, false, rfl, .ty _, .base (.lst hq), kit_ty (by decide +kernel), _, rfl, iteF ?_⟩
        refine ⟨_, rfl, _, _, _, _, false, rfl, .ty _, .base (.lst hq), kit_ty (by decide +kernel), _, rfl, iteF (iteF ?_)⟩
        refine ⟨_, rfl, _, _, _, _, true, rfl, .ty _, .base (.lst hq), kit_ty (by decide +kernel), _, rfl, iteT ⟨_, rfl, _, _, _, _, true, rfl, .ty _, .base (.lst hp), kit_ty (by decide +kernel), _, rfl, iteF ?_⟩⟩
        refine ⟨_, rfl, p, _, rfl, .inl (SqL.of hp), _, rfl, q, _, rfl, .inl (SqL.of hq), rfl, _, rfl, ?_⟩
        rw [hlen, decide_eq_true rfl]
        refine iteF ⟨_, rfl, q, _, rfl, .inl (SqL.of hq), _, rfl, by omega, by omega, fun D hD => ?_⟩
        refine lc_range (lo := 0) (n := ys.length) (fun i H' => Same H H' ∧ H' D = some (.lst ((List.replicate i true).map V.bl))) ⟨same_new hD, upd_same⟩ ?_ ?_
        · rintro i H' hi ⟨sm, hl⟩
          have hx : xs[i]? = some xs[i] := List.getElem?_eq_getElem (by omega)
          have hy : ys[i]? = some ys[i] := List.getElem?_eq_getElem hi
          refine ⟨rfl, _, rfl, _, rfl, .inl ⟨p, _, (0 + (i : Int)), _, rfl, rfl, SqL.of (sm _ _ hp), by rw [Int.zero_add]; exact atI_nat hx, _, rfl, _, rfl, .inl ⟨q, _, (0 + (i : Int)), _, rfl, rfl, SqL.of (sm _ _ hq), by rw [Int.zero_add]; exact atI_nat hy, _, _, rfl, (hat i _ _ hx hy).same sm, fun H2 s2 => ⟨_, s2 _ _ hl, ?_, s_mut (sm.trans s2) hD, ?_⟩⟩⟩⟩
          · refine Evl.sz_lt ?_
            rw [List.length_map, List.length_replicate]
            omega
          · rw [upd_same, trues_snoc]
        · rintro H' ⟨sm, hl⟩
          refine ⟨D, _, rfl, SqL.of hl, ?_⟩
          rw [all_trues]
          exact k H' sm
      · refine ⟨_, rfl, _, _, _, _, false, rfl, .ty _, .base (.tup hq), kit_ty (by decide +kernel), _, rfl, iteF ?_⟩
        refine ⟨_, rfl, _, _, _, _, false, rfl, .ty _, .base (.tup hq), kit_ty (by decide +kernel), _, rfl, iteF ?_⟩
        refine ⟨_, rfl, _, _, _, _, false, rfl, .ty _, .base (.tup hq), kit_ty (by decide +kernel), _, rfl, iteF ?_⟩
        refine ⟨_, rfl, _, _, _, _, true, rfl, .ty _, .base (.tup hq), kit_ty (by decide +kernel), _, rfl, iteT ⟨_, rfl, _, _, _, _, true, rfl, .ty _, .base (.tup hp), kit_ty (by decide +kernel), _, rfl, iteF ?_⟩⟩
        refine ⟨_, rfl, _, _, _, _, false, rfl, .ty _, .base (.tup hq), kit_ty (by decide +kernel), _, rfl, iteF (iteF ?_)⟩
        refine ⟨_, rfl, p, _, rfl, .inr (SqT.of hp), _, rfl, q, _, rfl, .inr (SqT.of hq), rfl, _, rfl, ?_⟩
        rw [hlen, decide_eq_true rfl]
        refine iteF ⟨_, rfl, q, _, rfl, .inr (SqT.of hq), _, rfl, by omega, by omega, fun D hD => ?_⟩
        refine lc_range (lo := 0) (n := ys.length) (fun i H' => Same H H' ∧ H' D = some (.lst ((List.replicate i true).map V.bl))) ⟨same_new hD, upd_same⟩ ?_ ?_
        · rintro i H' hi ⟨sm, hl⟩
          have hx : xs[i]? = some xs[i] := List.getElem?_eq_getElem (by omega)
          have hy : ys[i]? = some ys[i] := List.getElem?_eq_getElem hi
          refine ⟨rfl, _, rfl, _, rfl, .inr ⟨p, _, (0 + (i : Int)), _, rfl, rfl, SqT.of (sm _ _ hp), by rw [Int.zero_add]; exact atI_nat hx, _, rfl, _, rfl, .inr ⟨q, _, (0 + (i : Int)), _, rfl, rfl, SqT.of (sm _ _ hq), by rw [Int.zero_add]; exact atI_nat hy, _, _, rfl, (hat i _ _ hx hy).same sm, fun H2 s2 => ⟨_, s2 _ _ hl, ?_, s_mut (sm.trans s2) hD, ?_⟩⟩⟩⟩
          · refine Evl.sz_lt ?_
            rw [List.length_map, List.length_replicate]
            omega
          · rw [upd_same, trues_snoc]
        · rintro H' ⟨sm, hl⟩
          refine ⟨D, _, rfl, SqL.of hl, ?_⟩
          rw [all_trues]
          exact k H' sm
/-- at a depth -/
theorem ok_equal (T : Tx K mg) : ∀ n, Df P w K mg base (n + 2) "_law_equal" ["_law_actual", "_law_due_here"] (spEq n)
  | 0 => ok_equal0 T
  | n + 1 => ok_equalS T (ok_equal T n)
end
end K6

set_option Elab.async false
set_option linter.all false
set_option maxRecDepth 100000
set_option maxHeartbeats 4000000
set_option autoImplicit false
namespace K6
open PySem PySem.Spec PyProof.Rows L2
/-! ### told -/
def TList (H : Hp) (Q : VK) (os : List Str) : Prop := ∀ q H', Same H H' → H' q = some (.lst (os.map V.str)) → Q (.ref q) H'
def TTup (H : Hp) (Q : VK) (c : Int) (x : Str) : Prop := ∀ q H', Same H H' → H' q = some (.tup [.int c, .str x]) → Q (.ref q) H'
def told0 (H : Hp) (Q : VK) : Res → Prop
  | .ah os => TList H Q os
  | .er c x => TTup H Q c x
  | .ok => TList H Q []
def told1 (H : Hp) (Q : VK) : Res → Prop
  | .ah _ => True
  | .er c x => TTup H Q c x
  | .ok => TList H Q [] ∧ ∀ c x, Mild x → TTup H Q c x
def spTold : Sp := fun vs H Q _ => ∃ (z kd : Str) (L : List Pc) (e : Nat) (wh : Int), vs = [.str z, .str kd, .int wh] ∧ (kd = "list" ∨ kd = "row") ∧ LaidT z L e ∧ (wh = 0 → told0 H Q (res true (first kd) L e)) ∧ (wh ≠ 0 → told1 H Q (res false (first kd) L e))
section
variable {P : Program} {w : World} {K : PySem.W.Frag} {mg : Str → Option Value} {base : Heap}
theorem sc_told : FnScope ["_law_text", "_law_kind", "_law_which", "_law_listed_here", "_law_problem"] ["_law_text", "_law_kind", "_law_which"] (defScope s_l_told) := ⟨rfl, rfl, rfl, by decide +kernel, rfl, by decide +kernel, by decide +kernel⟩
theorem ok_told (T : Tx K mg) : Df P w K mg base 8 "_law_told" ["_law_text", "_law_kind", "_law_which"] spTold := by
  have DN : Df P w K mg base 7 "next_tokens" ["text", "kind"] (spNext K) := ok_next T
  have DL : Df P w K mg base 7 "read_list" ["text"] (spList K) := ok_rlist T
  have DR : Df P w K mg base 7 "read_row" ["listed", "text"] (spNums K) := ok_rrow T (ok_checkl T)
  have DC : Df P w K mg base 7 "read_case" ["listed", "text"] (spNums K) := ok_rcase T (ok_checkl T)
  refine df_mk T.g_l_told T.d_l_told sc_told (fun vs H Q E h => ?_) (fun _ _ _ _ _ _ us hl => match us, hl with | [_, _, _], _ => rfl) (fun cdv A outer s H vs Q E hr h => ?_)
  · obtain ⟨z, kd, L, e, wh, rfl, _⟩ := h
    rfl
  · obtain ⟨z, kd, L, e, wh, rfl, hkd, hL, k0, k1⟩ := h
    refine ⟨_, pss_cons (ps_set (i := 3) sc_told.nd rfl (Or.inl rfl) (pe_tup (pa_cons (pe_tup (pa_cons pe_int (pa_cons pe_int pa_nil))) (pa_cons (pe_tup (pa_cons (pe_tup (pa_cons pe_int (pa_cons (pe_tup (pa_cons (pe_tup (pa_cons pe_int (pa_cons pe_int pa_nil))) (pa_cons (pe_tup (pa_cons pe_int (pa_cons pe_int pa_nil))) pa_nil))) pa_nil)))
          (pa_cons (pe_tup (pa_cons pe_int (pa_cons (pe_tup (pa_cons (pe_tup (pa_cons pe_int (pa_cons pe_int pa_nil))) (pa_cons (pe_tup (pa_cons pe_int (pa_cons pe_int pa_nil))) pa_nil))) pa_nil))) pa_nil))) (pa_cons pe_int pa_nil)))))
      (pss_cons (ps_try_as (i := 4) (tb := fun W => tSeq (tIfS (tTest (tOp rEq (tVar 2) (tC (.int 0)))) (tRet (tCallS (spNext K) (WE W) (tCons (tVar 0) (tCons (tVar 1) tNil)))) tNext)
            (tIfS (tTest (tOp rEq (tVar 1) (tC (.str "list")))) (tDrop (tCallS (spList K) (WE W) (tCons (tVar 0) tNil)))
              (tIfS (tTest (tOp rEq (tVar 2) (tC (.int 1)))) (tDrop (tCallS (spNums K) (WE W) (tCons (tVar 3) (tCons (tVar 0) tNil)))) (tDrop (tCallS (spNums K) (WE W) (tCons (tVar 3) (tCons (tVar 0) tNil)))))))
          (ts := fun a cls d => tRet (tTup (tCons (tXf a cls d (He.ga K "TextError") "column" (tVar 4)) (tCons (tXf a cls d (He.ga K "TextError") "words" (tVar 4)) tNil)))) (Wout := fun _ _ _ _ => False) rfl rfl sc_told.nd rfl rfl ⟨rfl, by decide, Or.inl T.g_TextError⟩ takes0
          (fun W pn xe tk _ => pss_cons (ps_if (pt_cmpR op_eq (pv 2) pe_int (nomark _)) (pss_one (ps_ret (pe_d DN hr tk (pa_cons (pv 0) (pa_cons (pv 1) pa_nil))))) pss_nil)
            (pss_one (ps_if (pt_cmpR op_eq (pv 1) pe_str (nomark _)) (pss_one (ps_expr (pe_d DL hr tk (pa_cons (pv 0) pa_nil))))
              (pss_one (ps_if (pt_cmpR op_eq (pv 2) pe_int (nomark _)) (pss_one (ps_expr (pe_d DR hr tk (pa_cons (pv 3) (pa_cons (pv 0) pa_nil))))) (pss_one (ps_expr (pe_d DC hr tk (pa_cons (pv 3) (pa_cons (pv 0) pa_nil))))))))))
          (fun a oe cls d pn hz hf => pss_one (ps_ret (pe_tup (pa_cons (pe_xf T.te.f T.n_column hz hf (pv 4)) (pa_cons (pe_xf T.te.f T.n_words hz hf (pv 4)) pa_nil))))))
      (pss_one (ps_ret (pe_lst pa_nil)))), ?_⟩
    refine ⟨by show 2 ≤ sizeLine; decide, fun w hw => ?_⟩
    have s0 : Same H (upd H w (.tup [.int 4, .int 2])) := same_new hw
    have ew : (upd H w (.tup [.int 4, .int 2])) w = some (.tup [.int 4, .int 2]) := upd_same
    generalize upd H w (.tup [.int 4, .int 2]) = J0 at s0 ew ⊢
    have t0 := s0
    refine ⟨by show 2 ≤ sizeLine; decide, fun g1 hg1 => ?_⟩
    have s1 : Same J0 (upd J0 g1 (.tup [.int 0, .int 1])) := same_new hg1
    have eg1 : (upd J0 g1 (.tup [.int 0, .int 1])) g1 = some (.tup [.int 0, .int 1]) := upd_same
    generalize upd J0 g1 (.tup [.int 0, .int 1]) = J1 at s1 eg1 ⊢
    have ew := s1 _ _ ew
    have t1 := t0.trans s1
    refine ⟨by show 2 ≤ sizeLine; decide, fun g2 hg2 => ?_⟩
    have s2 : Same J1 (upd J1 g2 (.tup [.int 0, .int 1])) := same_new hg2
    have eg2 : (upd J1 g2 (.tup [.int 0, .int 1])) g2 = some (.tup [.int 0, .int 1]) := upd_same
    generalize upd J1 g2 (.tup [.int 0, .int 1]) = J2 at s2 eg2 ⊢
    have ew := s2 _ _ ew
    have eg1 := s2 _ _ eg1
    have t2 := t1.trans s2
    refine ⟨by show 2 ≤ sizeLine; decide, fun f1 hf1 => ?_⟩
    have s3 : Same J2 (upd J2 f1 (.tup [.ref g1, .ref g2])) := same_new hf1
    have ef1 : (upd J2 f1 (.tup [.ref g1, .ref g2])) f1 = some (.tup [.ref g1, .ref g2]) := upd_same
    generalize upd J2 f1 (.tup [.ref g1, .ref g2]) = J3 at s3 ef1 ⊢
    have ew := s3 _ _ ew
    have eg1 := s3 _ _ eg1
    have eg2 := s3 _ _ eg2
    have t3 := t2.trans s3
    refine ⟨by show 2 ≤ sizeLine; decide, fun r1 hr1 => ?_⟩
    have s4 : Same J3 (upd J3 r1 (.tup [.int 1, .ref f1])) := same_new hr1
    have er1 : (upd J3 r1 (.tup [.int 1, .ref f1])) r1 = some (.tup [.int 1, .ref f1]) := upd_same
    generalize upd J3 r1 (.tup [.int 1, .ref f1]) = J4 at s4 er1 ⊢
    have ew := s4 _ _ ew
    have eg1 := s4 _ _ eg1
    have eg2 := s4 _ _ eg2
    have ef1 := s4 _ _ ef1
    have t4 := t3.trans s4
    refine ⟨by show 2 ≤ sizeLine; decide, fun g3 hg3 => ?_⟩
    have s5 : Same J4 (upd J4 g3 (.tup [.int 1, .int 3])) := same_new hg3
    have eg3 : (upd J4 g3 (.tup [.int 1, .int 3])) g3 = some (.tup [.int 1, .int 3]) := upd_same
    generalize upd J4 g3 (.tup [.int 1, .int 3]) = J5 at s5 eg3 ⊢
    have ew := s5 _ _ ew
    have eg1 := s5 _ _ eg1
    have eg2 := s5 _ _ eg2
    have ef1 := s5 _ _ ef1
    have er1 := s5 _ _ er1
    have t5 := t4.trans s5
    refine ⟨by show 2 ≤ sizeLine; decide, fun g4 hg4 => ?_⟩
    have s6 : Same J5 (upd J5 g4 (.tup [.int 1, .int 1])) := same_new hg4
    have eg4 : (upd J5 g4 (.tup [.int 1, .int 1])) g4 = some (.tup [.int 1, .int 1]) := upd_same
    generalize upd J5 g4 (.tup [.int 1, .int 1]) = J6 at s6 eg4 ⊢
    have ew := s6 _ _ ew
    have eg1 := s6 _ _ eg1
    have eg2 := s6 _ _ eg2
    have ef1 := s6 _ _ ef1
    have er1 := s6 _ _ er1
    have eg3 := s6 _ _ eg3
    have t6 := t5.trans s6
    refine ⟨by show 2 ≤ sizeLine; decide, fun f2 hf2 => ?_⟩
    have s7 : Same J6 (upd J6 f2 (.tup [.ref g3, .ref g4])) := same_new hf2
    have ef2 : (upd J6 f2 (.tup [.ref g3, .ref g4])) f2 = some (.tup [.ref g3, .ref g4]) := upd_same
    generalize upd J6 f2 (.tup [.ref g3, .ref g4]) = J7 at s7 ef2 ⊢
    have ew := s7 _ _ ew
    have eg1 := s7 _ _ eg1
    have eg2 := s7 _ _ eg2
    have ef1 := s7 _ _ ef1
    have er1 := s7 _ _ er1
    have eg3 := s7 _ _ eg3
    have eg4 := s7 _ _ eg4
    have t7 := t6.trans s7
    refine ⟨by show 2 ≤ sizeLine; decide, fun r2 hr2 => ?_⟩
    have s8 : Same J7 (upd J7 r2 (.tup [.int 2, .ref f2])) := same_new hr2
    have er2 : (upd J7 r2 (.tup [.int 2, .ref f2])) r2 = some (.tup [.int 2, .ref f2]) := upd_same
    generalize upd J7 r2 (.tup [.int 2, .ref f2]) = J8 at s8 er2 ⊢
    have ew := s8 _ _ ew
    have eg1 := s8 _ _ eg1
    have eg2 := s8 _ _ eg2
    have ef1 := s8 _ _ ef1
    have er1 := s8 _ _ er1
    have eg3 := s8 _ _ eg3
    have eg4 := s8 _ _ eg4
    have ef2 := s8 _ _ ef2
    have t8 := t7.trans s8
    refine ⟨by show 2 ≤ sizeLine; decide, fun r hr => ?_⟩
    have s9 : Same J8 (upd J8 r (.tup [.ref r1, .ref r2])) := same_new hr
    have er : (upd J8 r (.tup [.ref r1, .ref r2])) r = some (.tup [.ref r1, .ref r2]) := upd_same
    generalize upd J8 r (.tup [.ref r1, .ref r2]) = J9 at s9 er ⊢
    have ew := s9 _ _ ew
    have eg1 := s9 _ _ eg1
    have eg2 := s9 _ _ eg2
    have ef1 := s9 _ _ ef1
    have er1 := s9 _ _ er1
    have eg3 := s9 _ _ eg3
    have eg4 := s9 _ _ eg4
    have ef2 := s9 _ _ ef2
    have er2 := s9 _ _ er2
    have t9 := t8.trans s9
    refine ⟨by show 3 ≤ sizeLine; decide, fun l hl => ?_⟩
    have s10 : Same J9 (upd J9 l (.tup [.ref w, .ref r, .int 0])) := same_new hl
    have el : (upd J9 l (.tup [.ref w, .ref r, .int 0])) l = some (.tup [.ref w, .ref r, .int 0]) := upd_same
    generalize upd J9 l (.tup [.ref w, .ref r, .int 0]) = J10 at s10 el ⊢
    have ew := s10 _ _ ew
    have eg1 := s10 _ _ eg1
    have eg2 := s10 _ _ eg2
    have ef1 := s10 _ _ ef1
    have er1 := s10 _ _ er1
    have eg3 := s10 _ _ eg3
    have eg4 := s10 _ _ eg4
    have ef2 := s10 _ _ ef2
    have er2 := s10 _ _ er2
    have er := s10 _ _ er
    have t10 := t9.trans s10
    have hlist : Listed J10 l := ⟨w, r, r1, r2, f1, f2, g1, g2, g3, g4, el, ew, er, ⟨er1, ef1, eg1, eg2⟩, er2, ef2, eg3, eg4⟩
    -- a TextError is caught
    have caught : ∀ (D : Ends) (c : Int) (x : Str) (H2 : Hp), D.rt = Q → Same H H2 → TTup H Q c x → RTE K (WE (wAs K (.ref (He.ga K "TextError")) 4 (fun a cls d => tRet (tTup (tCons (tXf a cls d (He.ga K "TextError") "column" (tVar 4)) (tCons (tXf a cls d (He.ga K "TextError") "words" (tVar 4)) tNil)))) (fun _ _ _ _ => False) D)
        [some (.str z), some (.str kd), some (.int wh), some (.ref l), none]) H2 c x := by
      intro D c x H2 hD s2 ht d H3 s3 hd
      refine ⟨true, T.x_TextError_TextError, fun _ a ha => ⟨_, rfl, rfl, rfl, d, _, _, rfl, hd, rfl, _, rfl, rfl, rfl, d, _, _, rfl, hd, rfl, by show 2 ≤ sizeLine; decide, fun q hq => ?_⟩, nofun⟩
      show D.rt _ _
      rw [hD]
      exact ht q _ ((s2.trans s3).trans (same_new hq)) upd_same
    have back : ∀ (H2 : Hp) (os : List Str), Same H H2 → TList H Q os → ∀ q H', Same H2 H' → H' q = some (.lst (os.map V.str)) → Q (.ref q) H' := fun H2 os s2 ht q H' s' hq => ht q H' (s2.trans s') hq
    refine ⟨_, rfl, rfl, _, rfl, ?_⟩
    by_cases hw0 : wh = 0
    · rw [decide_eq_true (congrArg V.int hw0)]
      have k := k0 hw0
      refine iteT ⟨_, rfl, _, rfl, z, kd, L, e, rfl, hkd, hL, ?_⟩
      cases hres : res true (first kd) L e with
      | ah os =>
        rw [hres] at k
        exact back J10 os t10 k
      | er c x =>
        rw [hres] at k
        exact caught _ _ _ _ rfl t10 k
      | ok =>
        rw [hres] at k
        exact back J10 [] t10 k
    · rw [decide_eq_false (fun q => hw0 (V.int.inj q))]
      have k := k1 hw0
      have gone : ∀ (H2 : Hp), Same H H2 → TList H Q [] → tRet (tLst tNil) { nx := fun _ H' => Q .non H', rt := Q } [some (.str z), some (.str kd), some (.int wh), some (.ref l), none] H2 := fun H2 s2 ht => ⟨by show 0 ≤ sizeLine; decide, fun q hq => ht q _ (s2.trans (same_new hq)) upd_same⟩
      have come : ∀ (s0 : Sta) (D : Ends), first kd = s0 → D.rt = Q → (∀ H2, Same H H2 → TList H Q [] → D.nx [some (.str z), some (.str kd), some (.int wh), some (.ref l), none] H2) →
          Comes K (WE (wAs K (.ref (He.ga K "TextError")) 4 (fun a cls d => tRet (tTup (tCons (tXf a cls d (He.ga K "TextError") "column" (tVar 4)) (tCons (tXf a cls d (He.ga K "TextError") "words" (tVar 4)) tNil)))) (fun _ _ _ _ => False) D)
            [some (.str z), some (.str kd), some (.int wh), some (.ref l), none]) J10 (res false s0 L e) (fun _ => True)
            (Milds K (WE (wAs K (.ref (He.ga K "TextError")) 4 (fun a cls d => tRet (tTup (tCons (tXf a cls d (He.ga K "TextError") "column" (tVar 4)) (tCons (tXf a cls d (He.ga K "TextError") "words" (tVar 4)) tNil)))) (fun _ _ _ _ => False) D)
            [some (.str z), some (.str kd), some (.int wh), some (.ref l), none]) J10 ∧ ∀ (p : Addr) H', Same J10 H' → D.nx [some (.str z), some (.str kd), some (.int wh), some (.ref l), none] H') := by
        intro s0 D hs0 hD hnx
        rw [hs0] at k
        cases hres : res false s0 L e with
        | ah os => trivial
        | er c x =>
          rw [hres] at k
          exact caught _ _ _ _ hD t10 k
        | ok =>
          rw [hres] at k
          exact ⟨fun c x hx => caught _ _ _ _ hD t10 (k.2 c x hx), fun p H' s' => hnx H' (t10.trans s') k.1⟩
      refine iteF ⟨_, rfl, rfl, _, rfl, ?_⟩
      rcases hkd with rfl | rfl
      · rw [decide_eq_true rfl]
        refine iteT ⟨_, rfl, z, L, e, rfl, hL, ?_⟩
        exact come .start _ (by decide +kernel) rfl gone
      · rw [decide_eq_false (by decide +kernel)]
        refine iteF ⟨_, rfl, rfl, _, rfl, ?_⟩
        by_cases hw1 : wh = 1
        · rw [decide_eq_true (congrArg V.int hw1)]
          exact iteT ⟨_, rfl, _, rfl, l, z, L, e, rfl, hlist, hL, come .row _ (by decide +kernel) rfl gone⟩
        · rw [decide_eq_false (fun q => hw1 (V.int.inj q))]
          exact iteF ⟨_, rfl, _, rfl, l, z, L, e, rfl, hlist, hL, come .row _ (by decide +kernel) rfl gone⟩
end
end K6

set_option Elab.async false
set_option linter.all false
set_option maxRecDepth 100000
set_option maxHeartbeats 4000000
set_option autoImplicit false
namespace K6
open PySem PySem.Spec PyProof.Rows L2
open TL (tl len_tl ext_tl)
/-! ### layouts: plain -/
def cols : Nat → List Pc → List Nat
  | _, [] => []
  | n, p :: r => (n + p.1 + 1) :: cols (n + p.1 + p.2.length) r
theorem cols_snoc {p : Pc} : ∀ {L : List Pc} {n : Nat}, cols n (L ++ [p]) = cols n L ++ [n + (L.flatMap pcs).length + p.1 + 1]
  | [], n => rfl
  | q :: r, n => by
    have ih := cols_snoc (p := p) (L := r) (n := n + q.1 + q.2.length)
    have e : (List.flatMap pcs (q :: r)).length = q.1 + (tl q.2).length + (r.flatMap pcs).length := by
      show ((List.replicate q.1 32 ++ tl q.2) ++ r.flatMap pcs).length = _
      simp only [List.length_append, List.length_replicate]
    show (n + q.1 + 1) :: cols (n + q.1 + q.2.length) (r ++ [p]) = (n + q.1 + 1) :: (cols (n + q.1 + q.2.length) r ++ [_])
    rw [ih, e, ← len_tl]
    congr 3
    omega
theorem Sep.snoc {p : Pc} : ∀ {L : List Pc}, Sep L → (∀ q, L.getLast? = some q → p.1 = 0 → near q.2 p.2 = false) → Sep (L ++ [p])
  | [], _, _ => ⟨fun q r' e => (nomatch e), trivial⟩
  | [q], h, k => ⟨fun q' r' e => by
      have e' : [p] = q' :: r' := e
      cases e'
      exact k q rfl, ⟨fun q r' e => (nomatch e), trivial⟩⟩
  | q :: q2 :: r, h, k => ⟨fun q' r' e => by
      have e' : q2 :: (r ++ [p]) = q' :: r' := e
      cases e'
      exact h.1 q2 r rfl, Sep.snoc (L := q2 :: r) h.2 fun q' hq => k q' (by rw [List.getLast?_cons_cons]; exact hq)⟩
theorem flat_snoc {L : List Pc} {p : Pc} : (L ++ [p]).flatMap pcs = L.flatMap pcs ++ (List.replicate p.1 32 ++ tl p.2) := by
  rw [List.flatMap_append]
  simp [pcs]
def blank (g : Nat) : Str := mkS (List.replicate g 32)
theorem tl_blank (g : Nat) : tl (blank g) = List.replicate g 32 := rfl
theorem len_blank (g : Nat) : (blank g).length = g := by rw [len_tl, tl_blank, List.length_replicate]
theorem blanks4 : ([.str "", .str " ", .str "  ", .str "   "] : List V) = [.str (blank 0), .str (blank 1), .str (blank 2), .str (blank 3)] := by decide +kernel
theorem blanks3 : ([.str "", .str " ", .str "  "] : List V) = [.str (blank 0), .str (blank 1), .str (blank 2)] := by decide +kernel
theorem blank4_at {g : Nat} (h : g < 4) : ([.str "", .str " ", .str "  ", .str "   "] : List V)[g]? = some (.str (blank g)) := by
  rw [blanks4]
  match g, h with
  | 0, _ => rfl
  | 1, _ => rfl
  | 2, _ => rfl
  | 3, _ => rfl
theorem blank3_at {g : Nat} (h : g < 3) : ([.str "", .str " ", .str "  "] : List V)[g]? = some (.str (blank g)) := by
  rw [blanks3]
  match g, h with
  | 0, _ => rfl
  | 1, _ => rfl
  | 2, _ => rfl
/-- a word's last sign, its first -/
theorem last_cut {x : Str} (h : x ≠ "") : ∃ c, (tl x).getLast? = some c ∧ cutS x (some (-(1 : Int))) none = ⟨#[c]⟩ := by
  obtain ⟨y, l, e⟩ : ∃ y l, tl x = l ++ [y] := by
    obtain ⟨c, r, e⟩ := cons_of_ne h
    exact ⟨(tl x).getLast (by rw [e]; simp), (tl x).dropLast, (List.dropLast_concat_getLast _).symm⟩
  have hl : x.length = l.length + 1 := by rw [len_tl, e]; simp
  refine ⟨y, by rw [e]; simp, ?_⟩
  unfold cutS
  have e1 : HT.sIx x.length 0 (some (-(1 : Int))) = l.length := by
    show (if (-(1 : Int)) < 0 then (-(1 : Int) + (x.length : Int)).toNat else min (-(1 : Int)).toNat x.length) = _
    rw [if_pos (by decide), hl]
    omega
  have e2 : HT.sIx x.length x.length none = x.length := rfl
  rw [e1, e2, hl, show x.cps.toList = l ++ [y] from e]
  simp
theorem first_cut {x : Str} (h : x ≠ "") : ∃ c, (tl x).head? = some c ∧ cutS x none (some (1 : Int)) = ⟨#[c]⟩ := by
  obtain ⟨c, r, e⟩ := cons_of_ne h
  have hl : x.length = r.length + 1 := by rw [len_tl, e]; simp
  refine ⟨c, by rw [e]; rfl, ?_⟩
  unfold cutS
  have e1 : HT.sIx x.length 0 none = 0 := rfl
  have e2 : HT.sIx x.length x.length (some (1 : Int)) = 1 := by
    show (if (1 : Int) < 0 then ((1 : Int) + (x.length : Int)).toNat else min (1 : Int).toNat x.length) = _
    rw [if_neg (by decide), hl]
    show min 1 _ = 1
    omega
  rw [e1, e2, show x.cps.toList = c :: r from e]
  rfl
def nearN (a b : Str) (i : Nat) : Int := if (cls3.take i).any (fun y => inC y (tl a).getLast? && inC y (tl b).head?) then 1 else 0
theorem near_all (a b : Str) : nearN a b 3 = if near a b then 1 else 0 := rfl
theorem near_step {a b y : Str} {i : Nat} (h : cls3[i]? = some y) : nearN a b (i + 1) = if (if (inC y (tl a).getLast? && inC y (tl b).head?) then (1 : Int) else 0) > nearN a b i then (if (inC y (tl a).getLast? && inC y (tl b).head?) then (1 : Int) else 0) else nearN a b i := by
  unfold nearN
  rw [List.take_add_one, h]
  show (if (List.any (List.take i cls3 ++ [y]) _) = true then (1 : Int) else 0) = _
  rw [List.any_append, List.any_cons, List.any_nil, Bool.or_false]
  generalize (List.take i cls3).any (fun y => inC y (tl a).getLast? && inC y (tl b).head?) = u
  generalize (inC y (tl a).getLast? && inC y (tl b).head?) = v
  cases u <;> cases v <;> decide
end K6

set_option Elab.async false
set_option linter.all false
set_option maxRecDepth 100000
set_option maxHeartbeats 4000000
set_option autoImplicit false
namespace K6
open PySem PySem.Spec PyProof.Rows L2
open TL (tl len_tl ext_tl)
/-! ### laid -/
def colV (L : List Nat) : List V := L.map fun (c : Nat) => V.int (c : Int)
def spLaid : Sp := fun vs H Q _ => ∃ (st sl wd : Addr) (ws : List Str), vs = [.ref st, .ref wd] ∧ StrAt H st sl ∧ H wd = some (.lst (ws.map V.str)) ∧ wd ≠ st ∧ (∀ x ∈ ws, PcOk (0, x)) ∧ ws.length ≤ 30 ∧
  ∀ (L : List Pc) (e : Nat) (z : Str) (r pl : Addr) H', L.map (·.2) = ws → LaidT z L e → But st H H' → StrAt H' st sl → H' r = some (.tup [.str z, .ref pl]) → H' pl = some (.lst (colV (cols 0 L ++ [z.length + 1]))) → Q (.ref r) H'
section
variable {X : Cx} {e f : Expr} {te tf : TE} {p pos : Pos}
theorem pe_max2 (T : Tx X.K X.mg) (hc : X.calm = true) (he : PE X e te) (hf : PE X f tf) (hg : Gl X "max" := by rfl) (h1 : starEach (e :: [f]) X.env = (false, eval e X.env) :: starEach [f] X.env := by rfl)
    (h2 : (backTo pos (starEach [f] X.env)).any (·.1) = false := by rfl) (h3 : starEach (f :: []) X.env = (false, eval f X.env) :: starEach [] X.env := by rfl) : PE X (.Call (.Name "max" p) [e, f] [] pos) (tCB Evl.rMax2 (tCons te (tCons tf tNil))) :=
  pe_callB (call_max2 hc) hg T.b_max (by decide +kernel) (pa_cons he (pa_cons hf pa_nil h3) h1) (by decide) (by decide) h1 h2
end
theorem But.keepL {st a : Addr} {H H' : Hp} {o : HO} (e : But st H H') (n : a ≠ st) (h : H a = some o) : H' a = some o := e a o n h
/-- the text and the places so far -/
structure LaidAt (H0 H : Hp) (st sl wd pl : Addr) (ws : List Str) (i : Nat) (z : Str) (L : List Pc) : Prop where
  bt : But st H0 H
  sa : StrAt H st sl
  wl : H wd = some (.lst (ws.map V.str))
  ls : H pl = some (.lst (colV (cols 0 L)))
  p0 : H0 pl = none
  ps : pl ≠ st ∧ pl ≠ sl
  pw : pl ≠ wd
  ml : L.map (·.2) = ws.take i
  tx : tl z = L.flatMap pcs
  sp : Sep L
  zl : z.length ≤ 10 * i
theorem LaidAt.same {H0 H H' : Hp} {st sl wd pl : Addr} {ws : List Str} {i : Nat} {z : Str} {L : List Pc} (A : LaidAt H0 H st sl wd pl ws i z L) (e : Same H H') : LaidAt H0 H' st sl wd pl ws i z L :=
  ⟨A.bt.same e, A.sa.same e, e _ _ A.wl, e _ _ A.ls, A.p0, A.ps, A.pw, A.ml, A.tx, A.sp, A.zl⟩
theorem LaidAt.draw {H0 H H' : Hp} {st sl wd pl : Addr} {ws : List Str} {i : Nat} {z : Str} {L : List Pc} (A : LaidAt H0 H st sl wd pl ws i z L) (hw : wd ≠ st) (e : But st H H') (s : StrAt H' st sl) : LaidAt H0 H' st sl wd pl ws i z L :=
  ⟨A.bt.trans e, s, e _ _ hw A.wl, e _ _ A.ps.1 A.ls, A.p0, A.ps, A.pw, A.ml, A.tx, A.sp, A.zl⟩
/-- what the neighbours ask for -/
def wants (L : List Pc) (x : Str) : Int := match L.getLast? with
  | some q => if near q.2 x then 1 else 0
  | none => 0
theorem wants_01 (L : List Pc) (x : Str) : wants L x = 0 ∨ wants L x = 1 := by
  unfold wants
  cases L.getLast? with
  | none => exact .inl rfl
  | some q =>
    show (if near q.2 x = true then (1 : Int) else 0) = 0 ∨ (if near q.2 x = true then (1 : Int) else 0) = 1
    split
    · exact .inr rfl
    · exact .inl rfl
theorem last_word {L : List Pc} {ws : List Str} {i : Nat} (h : L.map (·.2) = ws.take (i + 1)) (hi : i < ws.length) : ∃ q, L.getLast? = some q ∧ q.2 = ws[i] := by
  have h2 : (L.map (·.2)).getLast? = some ws[i] := by
    rw [h, List.take_add_one, List.getElem?_eq_getElem hi]
    show (ws.take i ++ [ws[i]]).getLast? = _
    exact List.getLast?_concat
  rw [List.getLast?_map] at h2
  cases e : L.getLast? with
  | none =>
    rw [e] at h2
    cases h2
  | some q =>
    rw [e] at h2
    exact ⟨q, rfl, Option.some.inj h2⟩
theorem cols_len : ∀ {L : List Pc} {n : Nat}, (cols n L).length = L.length
  | [], _ => rfl
  | p :: r, n => congrArg (· + 1) (cols_len (L := r))
section
variable {P : Program} {w : World} {K : PySem.W.Frag} {mg : Str → Option Value} {base : Heap}
abbrev nLaid : List Str := ["_law_stream_here", "_law_words", "_law_text", "_law_places", "_law_k", "_law_word", "_law_near", "_law_kind"]
theorem sc_laid : FnScope nLaid ["_law_stream_here", "_law_words"] (defScope s_l_laid) := ⟨rfl, rfl, rfl, by decide +kernel, rfl, by decide +kernel, by decide +kernel⟩
theorem ok_laid (T : Tx K mg) : Df P w K mg base 2 "_law_laid" ["_law_stream_here", "_law_words"] spLaid := by
  have DD : Df P w K mg base 1 "_law_next" ["_law_stream_here", "_law_many"] spDraw := ok_draw T
  refine df_mk T.g_l_laid T.d_l_laid sc_laid (fun vs H Q E h => ?_) (fun _ _ _ _ _ _ us hl => match us, hl with | [_, _], _ => rfl) (fun cdv A outer s H vs Q E hr h => ?_)
  · obtain ⟨st, sl, wd, ws, rfl, _⟩ := h
    rfl
  · obtain ⟨st, sl, wd, ws, rfl, hst, hwd, hne, hok, hlen, k⟩ := h
    refine ⟨_, pss_cons (ps_set (i := 2) sc_laid.nd rfl (Or.inl rfl) pe_str)
      (pss_cons (ps_set (i := 3) sc_laid.nd rfl (Or.inl rfl) (pe_lst pa_nil))
      (pss_cons (ps_for pwE rfl (pi_enum rfl T.b_enumerate (pa_cons (pv 1) pa_nil)) (pg_tup rfl (pgs_cons (pg_name (i := 4) sc_laid.nd rfl (Or.inl rfl)) (pgs_cons (pg_name (i := 5) sc_laid.nd rfl (Or.inl rfl)) pgs_nil)))
        (pss_cons (ps_set (i := 6) sc_laid.nd rfl (Or.inl rfl) pe_int)
        (Evl.pss_cut (ps_if (pt_cmpR op_gt (pv 4) pe_int (nomark _))
          (pss_one (ps_for pwE rfl (pi_list (pe_lst (pa_cons pe_str (pa_cons pe_str (pa_cons pe_str pa_nil))))) (pg_name (i := 7) sc_laid.nd rfl (Or.inl rfl))
            (pss_one (ps_set (i := 6) sc_laid.nd rfl (Or.inl rfl) (pe_max2 T rfl (pv 6) (pe_int1 T (pe_and (pe_cmpR op_in_sign (pe_slice sl_str (pe_ix ix_list (pv 1) (pe_op op_sub (pv 4) pe_int) (fun _ _ => rfl)) (po_some (pe_un un_neg pe_int)) po_none) (pv 7) rfl)
              (pe_one (pe_cmpR op_in_sign (pe_slice sl_str (pv 5) po_none (po_some pe_int)) (pv 7) rfl))))))))) pss_nil)
        (pss_cons (ps_set (i := 2) sc_laid.nd rfl (Or.inl rfl) (pe_op op_add_str (pv 2) (pe_ix ix_list (pe_lst (pa_cons pe_str (pa_cons pe_str (pa_cons pe_str (pa_cons pe_str pa_nil))))) (pe_max2 T rfl (pv 6) (pe_d DD hr takes0 (pa_cons (pv 0) (pa_cons pe_int pa_nil)))) (fun _ _ => rfl))))
        (pss_cons (ps_expr (pe_app (pv 3) (pe_op op_add (pe_lenT T (pv 2)) pe_int)))
        (pss_one (ps_set (i := 2) sc_laid.nd rfl (Or.inl rfl) (pe_op op_add_str (pv 2) (pv 5)))))))))
      (pss_cons (ps_set (i := 2) sc_laid.nd rfl (Or.inl rfl) (pe_op op_add_str (pv 2) (pe_ix ix_list (pe_lst (pa_cons pe_str (pa_cons pe_str (pa_cons pe_str pa_nil)))) (pe_d DD hr takes0 (pa_cons (pv 0) (pa_cons pe_int pa_nil))) (fun _ _ => rfl))))
      (pss_one (ps_ret (pe_tup (pa_cons (pv 2) (pa_cons (pe_op op_cat (pv 3) (pe_lst (pa_cons (pe_op op_add (pe_lenT T (pv 2)) pe_int) pa_nil))) pa_nil)))))))), ?_⟩
    refine ⟨by show 0 ≤ sizeLine; decide, fun pl hpl => ?_⟩
    have s0 : Same H (upd H pl (.lst [])) := same_new hpl
    have e0 : (upd H pl (.lst [])) pl = some (.lst (colV (cols 0 []))) := upd_same
    generalize upd H pl (.lst []) = H0 at s0 e0
    refine ⟨_, rfl, wd, _, rfl, SqL.of (s0 _ _ hwd), ?_⟩
    refine for_it (walk_enum (K := K) (a := wd) (xs := ws.map V.str)) (fun i σ H' => ∃ (z : Str) (L : List Pc) (v1 v2 v3 v4 : Option V), σ = [some (.ref st), some (.ref wd), some (.str z), some (.ref pl), v1, v2, v3, v4] ∧ LaidAt H H' st sl wd pl ws i z L)
      ⟨"", [], none, none, none, none, rfl, s_but s0, hst.same s0, s0 _ _ hwd, e0, hpl, hst.apart hpl, (ne_of_none hwd hpl).symm, rfl, by decide +kernel, trivial, by decide +kernel⟩ (fun i σ H' _ ⟨_, _, _, _, _, _, _, A⟩ => SqL.of A.wl) ?_ ?_
    · rintro i x σ H1 H2 hi ⟨z, L, v1, v2, v3, v4, rfl, A⟩ ⟨tp, u, v, rfl, ht, rfl, hu, hv⟩
      cases hu
      obtain ⟨word, hword, rfl, hmem⟩ := map_at hv
      have A2 := A.same (same_new (o := .tup [.int (i : Int), .str word]) ht)
      have ht' : (upd H1 tp (.tup [.int (i : Int), .str word])) tp = some (.tup [.int (i : Int), .str word]) := upd_same
      generalize upd H1 tp (.tup [.int (i : Int), .str word]) = H2 at A2 ht'
      have hiw : i < ws.length := (List.getElem?_eq_some_iff.mp hword).1
      have hfw := (hok word hmem).facts
      refine ⟨tp, _, rfl, SqT.of ht', rfl, _, _, rfl, _, _, rfl, rfl, ?_⟩
      refine ⟨fun σ' H' => ∃ v4, σ' = [some (.ref st), some (.ref wd), some (.str z), some (.ref pl), some (.int (i : Int)), some (.str word), some (.int (wants L word)), v4] ∧ LaidAt H H' st sl wd pl ws i z L, ?_, ?_⟩
      · refine ⟨_, rfl, _, _, rfl, rfl, _, rfl, ?_⟩
        match i, hiw, A2 with
        | 0, hiw, A2 =>
          have hL : L = [] := by
            have := A2.ml
            simpa using this
          subst hL
          exact iteF ⟨_, rfl, A2⟩
        | i + 1, hiw, A2 =>
          rw [decide_eq_true (by omega)]
          obtain ⟨q, hq, hqw⟩ := last_word A2.ml (by omega)
          have hprev : (ws.map V.str)[i]? = some (.str q.2) := by rw [List.getElem?_map, List.getElem?_eq_getElem (by omega), hqw]; rfl
          have hqm : q.2 ∈ ws := by rw [hqw]; exact List.getElem_mem _
          have hfq := (hok q.2 hqm).facts
          have ewn : wants L word = nearN q.2 word 3 := by
            unfold wants
            rw [hq]
            exact (near_all _ _).symm
          obtain ⟨c1, hc1, ec1⟩ := last_cut hfq.1
          obtain ⟨c2, hc2, ec2⟩ := first_cut hfw.1
          refine iteT ⟨by show 3 ≤ sizeLine; decide, fun tq htq => ⟨tq, rfl, ⟨_, SqL.of upd_same⟩, ?_⟩⟩
          have s3 : Same H2 (upd H2 tq (.lst [.str "0123456789", .str "abcdefghijklmnopqrstuvwxyz", .str "."])) := same_new htq
          have e3 : (upd H2 tq (.lst [.str "0123456789", .str "abcdefghijklmnopqrstuvwxyz", .str "."])) tq = some (.lst (cls3.map V.str)) := upd_same
          generalize upd H2 tq (.lst [.str "0123456789", .str "abcdefghijklmnopqrstuvwxyz", .str "."]) = H3 at s3 e3
          refine for_list (K := K) (a := tq) (xs := cls3.map V.str) (fun j σ' H' => ∃ v4, σ' = [some (.ref st), some (.ref wd), some (.str z), some (.ref pl), some (.int ((i + 1 : Nat) : Int)), some (.str word), some (.int (nearN q.2 word j)), v4] ∧ H' = H3) ⟨_, rfl, rfl⟩ (fun j σ' H' _ ⟨_, _, h⟩ => h ▸ SqL.of e3) ?_ ?_
          · rintro j y σ' H' hj ⟨v4, rfl, rfl⟩
            obtain ⟨cl, hcl, rfl, hclm⟩ := map_at hj
            have stp := near_step (a := q.2) (b := word) hcl
            rw [hc1, hc2] at stp
            have stp' : nearN q.2 word (j + 1) = if (if (decide (c1 ∈ tl cl) && decide (c2 ∈ tl cl)) then (1 : Int) else 0) > nearN q.2 word j then (if (decide (c1 ∈ tl cl) && decide (c2 ∈ tl cl)) then (1 : Int) else 0) else nearN q.2 word j := stp
            refine ⟨_, rfl, _, rfl, _, rfl, _, _, rfl, rfl, wd, _, (i : Int), _, rfl, congrArg V.int (by omega), SqL.of (s3 _ _ A2.wl), atI_nat hprev, 1, rfl, _, rfl, q.2, rfl, Evl.sz_of (Nat.le_trans hfq.2.1 (by decide)), _, rfl, c1, cl, congrArg V.str ec1, rfl, _, rfl, ?_⟩
            have hd1 : decide (c1 ∈ cl.cps.toList) = decide (c1 ∈ tl cl) := rfl
            cases hb1 : decide (c1 ∈ tl cl) with
            | false =>
              rw [hb1] at stp'
              refine iteF (.inr ⟨false, rfl, _, _, rfl, some (.str cl), ?_, rfl⟩)
              rw [stp']
              rfl
            | true =>
              rw [hb1] at stp'
              refine iteT ⟨_, rfl, _, rfl, word, rfl, Evl.sz_of (Nat.le_trans hfw.2.1 (by decide)), _, rfl, c2, cl, congrArg V.str ec2, rfl, ?_⟩
              refine .inr ⟨decide (c2 ∈ tl cl), rfl, _, _, rfl, some (.str cl), ?_, rfl⟩
              rw [stp', Bool.true_and]
              rfl
          · rintro σ' H' ⟨v4, rfl, rfl⟩
            refine ⟨v4, ?_, A2.same s3⟩
            rw [ewn]
            rfl
      · rintro σ' H3 ⟨v4, rfl, A3⟩
        refine ⟨_, rfl, by show 4 ≤ sizeLine; decide, fun tq htq => ?_⟩
        have A4 := A3.same (same_new (o := .lst [.str "", .str " ", .str "  ", .str "   "]) htq)
        have e4 : (upd H3 tq (.lst [.str "", .str " ", .str "  ", .str "   "])) tq = some (.lst [.str "", .str " ", .str "  ", .str "   "]) := upd_same
        have tqs := (A3.sa.apart htq).1
        generalize upd H3 tq (.lst [.str "", .str " ", .str "  ", .str "   "]) = H4 at A4 e4
        refine ⟨_, rfl, _, rfl, st, sl, 4, rfl, by decide, by decide, A4.sa, fun d H5 b5 sa5 d0 d1 => ?_⟩
        have A5 := A4.draw hne b5 sa5
        have e5 := b5 _ _ tqs e4
        obtain ⟨g, hg, hg4, hg0⟩ : ∃ g : Nat, (if d > wants L word then d else wants L word) = (g : Int) ∧ g < 4 ∧ (g = 0 → wants L word = 0) := by
          obtain ⟨dn, rfl⟩ := Int.eq_ofNat_of_zero_le d0
          rcases wants_01 L word with hw | hw
          · refine ⟨dn, ?_, by omega, fun _ => hw⟩
            rw [hw]
            split <;> omega
          · rw [hw]
            by_cases h1 : (dn : Int) > 1
            · exact ⟨dn, if_pos h1, by omega, fun z => by omega⟩
            · exact ⟨1, if_neg h1, by omega, fun z => by omega⟩
        have hzl := A5.zl
        refine ⟨_, _, rfl, tq, _, (g : Int), _, rfl, congrArg V.int hg, SqL.of e5, atI_nat (blank4_at hg4), _, _, rfl, rfl, Evl.sz_of (by rw [len_blank]; omega), ?_⟩
        refine ⟨_, rfl, .inl ⟨rfl, _, SqL.of A5.ls⟩, _, rfl, _, rfl, Evl.sz_of (by rw [len_app, len_blank]; omega), _, _, rfl, rfl, pl, _, _, rfl, rfl, A5.ls, ?_, ?_⟩
        · have q := congrArg List.length A5.ml
          rw [List.length_map, List.length_take] at q
          refine Evl.sz_lt ?_
          unfold colV
          rw [List.length_map, cols_len]
          omega
        refine ⟨_, rfl, _, rfl, _, _, rfl, rfl, Evl.sz_of (by rw [len_app, len_blank]; have hwl : word.length ≤ 7 := hfw.2.1; omega), ?_⟩
        refine ⟨z ++ blank g ++ word, L ++ [(g, word)], _, _, _, _, rfl, (A5.bt).mut A5.p0, A5.sa.mut A5.ps.1 A5.ps.2, ?_, ?_, A5.p0, A5.ps, A5.pw, ?_, ?_, ?_, ?_⟩
        · rw [upd_ne A5.pw.symm]
          exact A5.wl
        · rw [upd_same, cols_snoc]
          have el : (L.flatMap pcs).length = z.length := by rw [← A5.tx, ← len_tl]
          rw [el]
          unfold colV
          rw [List.map_append]
          refine congrArg (fun v => some (HO.lst (List.map (fun (c : Nat) => V.int (c : Int)) (cols 0 L) ++ [V.int v]))) ?_
          rw [len_app, len_blank]
          omega
        · rw [List.map_append, A5.ml, List.take_add_one, hword]
          rfl
        · rw [tl_app, tl_app, A5.tx, tl_blank, flat_snoc, List.append_assoc]
        · refine A5.sp.snoc fun q hq hq0 => ?_
          have h0 := hg0 hq0
          unfold wants at h0
          rw [hq] at h0
          cases hn : near q.2 word with
          | false => rfl
          | true =>
            have h0' : (if near q.2 word = true then (1 : Int) else 0) = 0 := h0
            rw [hn] at h0'
            cases h0'
        · rw [len_app, len_app, len_blank]
          have hwl : word.length ≤ 7 := hfw.2.1
          omega
    · rintro σ H1 ⟨z, L, v1, v2, v3, v4, rfl, A⟩
      refine ⟨_, rfl, by show 3 ≤ sizeLine; decide, fun tq htq => ?_⟩
      have A4 := A.same (same_new (o := .lst [.str "", .str " ", .str "  "]) htq)
      have e4 : (upd H1 tq (.lst [.str "", .str " ", .str "  "])) tq = some (.lst [.str "", .str " ", .str "  "]) := upd_same
      have tqs := (A.sa.apart htq).1
      generalize upd H1 tq (.lst [.str "", .str " ", .str "  "]) = H4 at A4 e4
      refine ⟨_, rfl, st, sl, 3, rfl, by decide, by decide, A4.sa, fun d H5 b5 sa5 d0 d1 => ?_⟩
      have A5 := A4.draw hne b5 sa5
      have e5 := b5 _ _ tqs e4
      have hzl : z.length ≤ 10 * ws.length := by
        have q := A5.zl
        rw [List.length_map] at q
        exact q
      have hml : L.map (·.2) = ws := by
        have q := A5.ml
        rw [List.length_map, List.take_length] at q
        exact q
      obtain ⟨g, rfl⟩ := Int.eq_ofNat_of_zero_le d0
      refine ⟨tq, _, (g : Nat), _, rfl, rfl, SqL.of e5, atI_nat (blank3_at (by omega)), _, _, rfl, rfl, Evl.sz_of (by rw [len_blank]; omega), ?_⟩
      refine ⟨_, rfl, _, rfl, _, rfl, _, rfl, Evl.sz_of (by rw [len_app, len_blank]; omega), _, _, rfl, rfl, by show 1 ≤ sizeLine; decide, fun p6 h6 => ?_⟩
      have hll : L.length ≤ 30 := by
        have q := congrArg List.length hml
        rw [List.length_map] at q
        omega
      refine ⟨pl, p6, _, _, rfl, rfl, same_new h6 _ _ A5.ls, upd_same, ?_, fun p7 h7 => ⟨by show 2 ≤ sizeLine; decide, fun r hr0 => ?_⟩⟩
      · refine Evl.sz_of ?_
        unfold colV
        rw [List.length_map, cols_len]
        show L.length + 1 ≤ _
        omega
      have s6 : Same H5 (upd H5 p6 (.lst [.int (((z ++ blank g).length : Int) + 1)])) := same_new h6
      have s7 := s6.trans (same_new (o := .lst (colV (cols 0 L) ++ [.int (((z ++ blank g).length : Int) + 1)])) h7)
      have s8 := s7.trans (same_new (o := .tup [.str (z ++ blank g), .ref p7]) hr0)
      refine k L g (z ++ blank g) r p7 _ hml ⟨?_, ?_, fun p hp => ?_, A5.sp⟩ (A5.bt.same s8) (A5.sa.same s8) upd_same ?_
      · rw [len_app, len_blank]
        omega
      · rw [tl_app, A5.tx, tl_blank]
      · exact hok p.2 (by rw [← hml]; exact List.mem_map_of_mem hp)
      · refine same_new hr0 _ _ ?_
        rw [upd_same]
        unfold colV
        rw [List.map_append]
        rfl
end
end K6

set_option Elab.async false
set_option linter.all false
set_option maxRecDepth 100000
set_option maxHeartbeats 4000000
set_option autoImplicit false
namespace K6
open PySem PySem.Spec PyProof.Rows L2
open TL (tl len_tl ext_tl)
/-! ### the law's table -/
def Sta.nm : Sta → Str
  | .start => "" | .widths => "widths" | .rules => "rules" | .action => "action" | .rest => "rest" | .done => "done" | .field => "field" | .low => "low" | .high => "high" | .behind => "behind" | .row => "" | .z => "z"
def inK : Sta → List (Key × V)
  | .start => mergeK [] [(Sum.inr "number", V.str "widths")]
  | .widths => mergeK [] [(Sum.inr "number", V.str "widths"), (Sum.inr ":", V.str "rules")]
  | .rules => mergeK [] [(Sum.inr "number", V.str "action"), (Sum.inr "else", V.str "rest")]
  | .action => mergeK [] [(Sum.inr "if", V.str "field")]
  | .rest => mergeK [] [(Sum.inr "number", V.str "done")]
  | .done => mergeK [] [(Sum.inr "end", V.str "z")]
  | .field => mergeK [] [(Sum.inr "number", V.str "low"), (Sum.inr "*", V.str "behind")]
  | .low => mergeK [] [(Sum.inr "number", V.str "low"), (Sum.inr "*", V.str "behind"), (Sum.inr "..", V.str "high"), (Sum.inr ";", V.str "rules")]
  | .high => mergeK [] [(Sum.inr "number", V.str "behind")]
  | .behind => mergeK [] [(Sum.inr "number", V.str "low"), (Sum.inr "*", V.str "behind"), (Sum.inr ";", V.str "rules")]
  | .row => mergeK [] [(Sum.inr "number", V.str ""), (Sum.inr "end", V.str "z")]
  | .z => []
theorem inK_get (s : Sta) (k : Kd) : valV (inK s) (Sum.inr k.law) = (step s k).map fun s' => V.str s'.nm := by
  cases s <;> cases k <;> decide +kernel
def Liv (kd : Str) (s : Sta) : Prop := (kd = "row" ∧ s = .row) ∨ (kd = "list" ∧ s ≠ .row ∧ s ≠ .z)
def TabAt (H : Hp) (t : Addr) (kd : Str) : Prop := ∃ kvs : List (Key × V), H t = some (.dK kvs) ∧ ∀ s, Liv kd s → ∃ d, valV kvs (Sum.inr s.nm) = some (.ref d) ∧ H d = some (.dK (inK s))
theorem TabAt.same {H H' : Hp} {t : Addr} {kd : Str} (h : TabAt H t kd) (e : Same H H') : TabAt H' t kd := by
  obtain ⟨kvs, h1, h2⟩ := h
  exact ⟨kvs, e _ _ h1, fun s hs => let ⟨d, a, b⟩ := h2 s hs; ⟨d, a, e _ _ b⟩⟩
theorem TabAt.but {H H' : Hp} {t st l : Addr} {kd : Str} (h : TabAt H t kd) (sa : StrAt H st l) (e : But st H H') : TabAt H' t kd := by
  obtain ⟨kvs, h1, h2⟩ := h
  obtain ⟨a, k, ns, h3, _⟩ := sa
  exact ⟨kvs, e _ _ (ne_of h1 h3 (fun z => nomatch z)) h1, fun s hs => let ⟨d, a, b⟩ := h2 s hs; ⟨d, a, e _ _ (ne_of b h3 (fun z => nomatch z)) b⟩⟩
def spTable : Sp := fun vs H Q _ => ∃ kd : Str, vs = [.str kd] ∧ (kd = "list" ∨ kd = "row") ∧ ∀ t H', Same H H' → TabAt H' t kd → Q (.ref t) H'
section
variable {P : Program} {w : World} {K : PySem.W.Frag} {mg : Str → Option Value} {base : Heap}
theorem sc_table : FnScope ["_law_kind", "_law_table_here"] ["_law_kind"] (defScope s_l_table) := ⟨rfl, rfl, rfl, by decide +kernel, rfl, by decide +kernel, by decide +kernel⟩
theorem ok_table (T : Tx K mg) : Df P w K mg base 1 "_law_table" ["_law_kind"] spTable := by
  refine df_mk T.g_l_table T.d_l_table sc_table (fun vs H Q E h => ?_) (fun _ _ _ _ _ _ us hl => match us, hl with | [_], _ => rfl) (fun cdv A outer s H vs Q E hr h => ?_)
  · obtain ⟨kd, rfl, _⟩ := h
    rfl
  · obtain ⟨kd, rfl, hkd, k⟩ := h
    have hu := hu_of hr
    refine ⟨_, pss_cons (ps_if (pt_cmpR op_eq (pv 0) pe_str (nomark _)) (pss_one (ps_ret (pe_disp (pps_cons pe_str (pe_disp (pps_cons pe_str pe_str (pps_cons pe_str pe_str pps_nil)) (by rfl) (by rfl) (fun z => by cases z) (by decide)) pps_nil) (by rfl) (by rfl) (fun z => by cases z) (by decide)))) pss_nil)
      (pss_cons (ps_set (i := 1) sc_table.nd rfl (Or.inl rfl) (pe_disp (pps_cons pe_str (pe_disp (pps_cons pe_str pe_str pps_nil) (by rfl) (by rfl) (fun z => by cases z) (by decide)) (pps_cons pe_str (pe_disp (pps_cons pe_str pe_str (pps_cons pe_str pe_str pps_nil)) (by rfl) (by rfl) (fun z => by cases z) (by decide)) (pps_cons pe_str (pe_disp (pps_cons pe_str pe_str (pps_cons pe_str pe_str pps_nil)) (by rfl) (by rfl) (fun z => by cases z) (by decide)) (pps_cons pe_str (pe_disp (pps_cons pe_str pe_str pps_nil) (by rfl) (by rfl) (fun z => by cases z) (by decide)) (pps_cons pe_str (pe_disp (pps_cons pe_str pe_str pps_nil) (by rfl) (by rfl) (fun z => by cases z) (by decide)) (pps_cons pe_str (pe_disp (pps_cons pe_str pe_str pps_nil) (by rfl) (by rfl) (fun z => by cases z) (by decide)) pps_nil)))))) (by rfl) (by rfl) (fun z => by cases z) (by decide)))
      (pss_cons (ps_dput hu (pv 1) pe_str (pe_disp (pps_cons pe_str pe_str (pps_cons pe_str pe_str pps_nil)) (by rfl) (by rfl) (fun z => by cases z) (by decide)) rfl)
      (pss_cons (ps_dput hu (pv 1) pe_str (pe_disp (pps_cons pe_str pe_str (pps_cons pe_str pe_str (pps_cons pe_str pe_str (pps_cons pe_str pe_str pps_nil)))) (by rfl) (by rfl) (fun z => by cases z) (by decide)) rfl)
      (pss_cons (ps_dput hu (pv 1) pe_str (pe_disp (pps_cons pe_str pe_str pps_nil) (by rfl) (by rfl) (fun z => by cases z) (by decide)) rfl)
      (pss_cons (ps_dput hu (pv 1) pe_str (pe_disp (pps_cons pe_str pe_str (pps_cons pe_str pe_str (pps_cons pe_str pe_str pps_nil))) (by rfl) (by rfl) (fun z => by cases z) (by decide)) rfl)
      (pss_one (ps_ret (pv 1)))))))), ?_⟩
    refine ⟨_, rfl, rfl, _, rfl, ?_⟩
    rcases hkd with rfl | rfl
    · rw [decide_eq_false (by decide +kernel)]
      refine iteF fun t ht => ?_
      have s0 : Same H (upd H t (.dK [])) := same_new ht
      have et : (upd H t (.dK [])) t = some (.dK []) := upd_same
      generalize upd H t (.dK []) = J at s0 et ⊢
      refine fun d0 hd0 => ⟨upd_same, [(Sum.inr "number", V.str "widths")], rfl, by show 1 ≤ 15; decide, ?_⟩
      have n0 : d0 ≠ t := (ne_of_none et hd0).symm
      rw [upd_upd]
      have s1 : Same J (upd J d0 (.dK (mergeK [] [(Sum.inr "number", V.str "widths")]))) := same_new hd0
      have e0 : (upd J d0 (.dK (mergeK [] [(Sum.inr "number", V.str "widths")]))) d0 = some (.dK (inK .start)) := upd_same
      generalize upd J d0 (.dK (mergeK [] [(Sum.inr "number", V.str "widths")])) = J0 at s1 e0 ⊢
      have et := s1 _ _ et
      have q1 := s0.trans s1
      refine fun d1 hd1 => ⟨upd_same, [(Sum.inr "number", V.str "widths"), (Sum.inr ":", V.str "rules")], rfl, by show 2 ≤ 15; decide, ?_⟩
      have n1 : d1 ≠ t := (ne_of_none et hd1).symm
      rw [upd_upd]
      have s2 : Same J0 (upd J0 d1 (.dK (mergeK [] [(Sum.inr "number", V.str "widths"), (Sum.inr ":", V.str "rules")]))) := same_new hd1
      have e1 : (upd J0 d1 (.dK (mergeK [] [(Sum.inr "number", V.str "widths"), (Sum.inr ":", V.str "rules")]))) d1 = some (.dK (inK .widths)) := upd_same
      generalize upd J0 d1 (.dK (mergeK [] [(Sum.inr "number", V.str "widths"), (Sum.inr ":", V.str "rules")])) = J1 at s2 e1 ⊢
      have et := s2 _ _ et
      have e0 := s2 _ _ e0
      have q2 := q1.trans s2
      refine fun d2 hd2 => ⟨upd_same, [(Sum.inr "number", V.str "action"), (Sum.inr "else", V.str "rest")], rfl, by show 2 ≤ 15; decide, ?_⟩
      have n2 : d2 ≠ t := (ne_of_none et hd2).symm
      rw [upd_upd]
      have s3 : Same J1 (upd J1 d2 (.dK (mergeK [] [(Sum.inr "number", V.str "action"), (Sum.inr "else", V.str "rest")]))) := same_new hd2
      have e2 : (upd J1 d2 (.dK (mergeK [] [(Sum.inr "number", V.str "action"), (Sum.inr "else", V.str "rest")]))) d2 = some (.dK (inK .rules)) := upd_same
      generalize upd J1 d2 (.dK (mergeK [] [(Sum.inr "number", V.str "action"), (Sum.inr "else", V.str "rest")])) = J2 at s3 e2 ⊢
      have et := s3 _ _ et
      have e0 := s3 _ _ e0
      have e1 := s3 _ _ e1
      have q3 := q2.trans s3
      refine fun d3 hd3 => ⟨upd_same, [(Sum.inr "if", V.str "field")], rfl, by show 1 ≤ 15; decide, ?_⟩
      have n3 : d3 ≠ t := (ne_of_none et hd3).symm
      rw [upd_upd]
      have s4 : Same J2 (upd J2 d3 (.dK (mergeK [] [(Sum.inr "if", V.str "field")]))) := same_new hd3
      have e3 : (upd J2 d3 (.dK (mergeK [] [(Sum.inr "if", V.str "field")]))) d3 = some (.dK (inK .action)) := upd_same
      generalize upd J2 d3 (.dK (mergeK [] [(Sum.inr "if", V.str "field")])) = J3 at s4 e3 ⊢
      have et := s4 _ _ et
      have e0 := s4 _ _ e0
      have e1 := s4 _ _ e1
      have e2 := s4 _ _ e2
      have q4 := q3.trans s4
      refine fun d4 hd4 => ⟨upd_same, [(Sum.inr "number", V.str "done")], rfl, by show 1 ≤ 15; decide, ?_⟩
      have n4 : d4 ≠ t := (ne_of_none et hd4).symm
      rw [upd_upd]
      have s5 : Same J3 (upd J3 d4 (.dK (mergeK [] [(Sum.inr "number", V.str "done")]))) := same_new hd4
      have e4 : (upd J3 d4 (.dK (mergeK [] [(Sum.inr "number", V.str "done")]))) d4 = some (.dK (inK .rest)) := upd_same
      generalize upd J3 d4 (.dK (mergeK [] [(Sum.inr "number", V.str "done")])) = J4 at s5 e4 ⊢
      have et := s5 _ _ et
      have e0 := s5 _ _ e0
      have e1 := s5 _ _ e1
      have e2 := s5 _ _ e2
      have e3 := s5 _ _ e3
      have q5 := q4.trans s5
      refine fun d5 hd5 => ⟨upd_same, [(Sum.inr "end", V.str "z")], rfl, by show 1 ≤ 15; decide, ?_⟩
      have n5 : d5 ≠ t := (ne_of_none et hd5).symm
      rw [upd_upd]
      have s6 : Same J4 (upd J4 d5 (.dK (mergeK [] [(Sum.inr "end", V.str "z")]))) := same_new hd5
      have e5 : (upd J4 d5 (.dK (mergeK [] [(Sum.inr "end", V.str "z")]))) d5 = some (.dK (inK .done)) := upd_same
      generalize upd J4 d5 (.dK (mergeK [] [(Sum.inr "end", V.str "z")])) = J5 at s6 e5 ⊢
      have et := s6 _ _ et
      have e0 := s6 _ _ e0
      have e1 := s6 _ _ e1
      have e2 := s6 _ _ e2
      have e3 := s6 _ _ e3
      have e4 := s6 _ _ e4
      have q6 := q5.trans s6
      refine ⟨et, [(Sum.inr "", V.ref d0), (Sum.inr "widths", V.ref d1), (Sum.inr "rules", V.ref d2), (Sum.inr "action", V.ref d3), (Sum.inr "rest", V.ref d4), (Sum.inr "done", V.ref d5)], rfl, by show 6 ≤ 15; decide, ?_⟩
      have ln : (mergeK [] ([(Sum.inr "", V.ref d0), (Sum.inr "widths", V.ref d1), (Sum.inr "rules", V.ref d2), (Sum.inr "action", V.ref d3), (Sum.inr "rest", V.ref d4), (Sum.inr "done", V.ref d5)] : List (Key × V))).length ≤ 0 + 6 := length_mergeK _ _
      have r6 : Same H (upd J5 t (.dK (mergeK [] [(Sum.inr "", V.ref d0), (Sum.inr "widths", V.ref d1), (Sum.inr "rules", V.ref d2), (Sum.inr "action", V.ref d3), (Sum.inr "rest", V.ref d4), (Sum.inr "done", V.ref d5)]))) := s_mut q6 ht
      have et : (upd J5 t (.dK (mergeK [] [(Sum.inr "", V.ref d0), (Sum.inr "widths", V.ref d1), (Sum.inr "rules", V.ref d2), (Sum.inr "action", V.ref d3), (Sum.inr "rest", V.ref d4), (Sum.inr "done", V.ref d5)]))) t = some (.dK (mergeK [] [(Sum.inr "", V.ref d0), (Sum.inr "widths", V.ref d1), (Sum.inr "rules", V.ref d2), (Sum.inr "action", V.ref d3), (Sum.inr "rest", V.ref d4), (Sum.inr "done", V.ref d5)])) := upd_same
      have e0 := (upd_ne (H := J5) (o := .dK (mergeK [] [(Sum.inr "", V.ref d0), (Sum.inr "widths", V.ref d1), (Sum.inr "rules", V.ref d2), (Sum.inr "action", V.ref d3), (Sum.inr "rest", V.ref d4), (Sum.inr "done", V.ref d5)])) n0).trans e0
      have e1 := (upd_ne (H := J5) (o := .dK (mergeK [] [(Sum.inr "", V.ref d0), (Sum.inr "widths", V.ref d1), (Sum.inr "rules", V.ref d2), (Sum.inr "action", V.ref d3), (Sum.inr "rest", V.ref d4), (Sum.inr "done", V.ref d5)])) n1).trans e1
      have e2 := (upd_ne (H := J5) (o := .dK (mergeK [] [(Sum.inr "", V.ref d0), (Sum.inr "widths", V.ref d1), (Sum.inr "rules", V.ref d2), (Sum.inr "action", V.ref d3), (Sum.inr "rest", V.ref d4), (Sum.inr "done", V.ref d5)])) n2).trans e2
      have e3 := (upd_ne (H := J5) (o := .dK (mergeK [] [(Sum.inr "", V.ref d0), (Sum.inr "widths", V.ref d1), (Sum.inr "rules", V.ref d2), (Sum.inr "action", V.ref d3), (Sum.inr "rest", V.ref d4), (Sum.inr "done", V.ref d5)])) n3).trans e3
      have e4 := (upd_ne (H := J5) (o := .dK (mergeK [] [(Sum.inr "", V.ref d0), (Sum.inr "widths", V.ref d1), (Sum.inr "rules", V.ref d2), (Sum.inr "action", V.ref d3), (Sum.inr "rest", V.ref d4), (Sum.inr "done", V.ref d5)])) n4).trans e4
      have e5 := (upd_ne (H := J5) (o := .dK (mergeK [] [(Sum.inr "", V.ref d0), (Sum.inr "widths", V.ref d1), (Sum.inr "rules", V.ref d2), (Sum.inr "action", V.ref d3), (Sum.inr "rest", V.ref d4), (Sum.inr "done", V.ref d5)])) n5).trans e5
      generalize upd J5 t (.dK (mergeK [] [(Sum.inr "", V.ref d0), (Sum.inr "widths", V.ref d1), (Sum.inr "rules", V.ref d2), (Sum.inr "action", V.ref d3), (Sum.inr "rest", V.ref d4), (Sum.inr "done", V.ref d5)])) = G6 at r6 et e0 e1 e2 e3 e4 e5 ⊢
      refine fun d6 hd6 => ⟨upd_same, [(Sum.inr "number", V.str "low"), (Sum.inr "*", V.str "behind")], rfl, by show 2 ≤ 15; decide, ?_⟩
      have n6 : d6 ≠ t := (ne_of_none et hd6).symm
      rw [upd_upd]
      have s7 : Same G6 (upd G6 d6 (.dK (mergeK [] [(Sum.inr "number", V.str "low"), (Sum.inr "*", V.str "behind")]))) := same_new hd6
      have e6 : (upd G6 d6 (.dK (mergeK [] [(Sum.inr "number", V.str "low"), (Sum.inr "*", V.str "behind")]))) d6 = some (.dK (inK .field)) := upd_same
      generalize upd G6 d6 (.dK (mergeK [] [(Sum.inr "number", V.str "low"), (Sum.inr "*", V.str "behind")])) = J6 at s7 e6 ⊢
      have et := s7 _ _ et
      have e0 := s7 _ _ e0
      have e1 := s7 _ _ e1
      have e2 := s7 _ _ e2
      have e3 := s7 _ _ e3
      have e4 := s7 _ _ e4
      have e5 := s7 _ _ e5
      have u6 := r6.trans s7
      refine ⟨_, rfl, t, _, rfl, .inl ⟨_, Sum.inr "field", et, rfl, ?_, rfl⟩, ?_⟩
      · refine Evl.sz_lt ?_
        omega
      have r7 : Same H (upd J6 t (.dK (putK (mergeK [] [(Sum.inr "", V.ref d0), (Sum.inr "widths", V.ref d1), (Sum.inr "rules", V.ref d2), (Sum.inr "action", V.ref d3), (Sum.inr "rest", V.ref d4), (Sum.inr "done", V.ref d5)]) (Sum.inr "field") (V.ref d6)))) := s_mut u6 ht
      have et : (upd J6 t (.dK (putK (mergeK [] [(Sum.inr "", V.ref d0), (Sum.inr "widths", V.ref d1), (Sum.inr "rules", V.ref d2), (Sum.inr "action", V.ref d3), (Sum.inr "rest", V.ref d4), (Sum.inr "done", V.ref d5)]) (Sum.inr "field") (V.ref d6)))) t = some (.dK (putK (mergeK [] [(Sum.inr "", V.ref d0), (Sum.inr "widths", V.ref d1), (Sum.inr "rules", V.ref d2), (Sum.inr "action", V.ref d3), (Sum.inr "rest", V.ref d4), (Sum.inr "done", V.ref d5)]) (Sum.inr "field") (V.ref d6))) := upd_same
      have e0 := (upd_ne (H := J6) (o := .dK (putK (mergeK [] [(Sum.inr "", V.ref d0), (Sum.inr "widths", V.ref d1), (Sum.inr "rules", V.ref d2), (Sum.inr "action", V.ref d3), (Sum.inr "rest", V.ref d4), (Sum.inr "done", V.ref d5)]) (Sum.inr "field") (V.ref d6))) n0).trans e0
      have e1 := (upd_ne (H := J6) (o := .dK (putK (mergeK [] [(Sum.inr "", V.ref d0), (Sum.inr "widths", V.ref d1), (Sum.inr "rules", V.ref d2), (Sum.inr "action", V.ref d3), (Sum.inr "rest", V.ref d4), (Sum.inr "done", V.ref d5)]) (Sum.inr "field") (V.ref d6))) n1).trans e1
      have e2 := (upd_ne (H := J6) (o := .dK (putK (mergeK [] [(Sum.inr "", V.ref d0), (Sum.inr "widths", V.ref d1), (Sum.inr "rules", V.ref d2), (Sum.inr "action", V.ref d3), (Sum.inr "rest", V.ref d4), (Sum.inr "done", V.ref d5)]) (Sum.inr "field") (V.ref d6))) n2).trans e2
      have e3 := (upd_ne (H := J6) (o := .dK (putK (mergeK [] [(Sum.inr "", V.ref d0), (Sum.inr "widths", V.ref d1), (Sum.inr "rules", V.ref d2), (Sum.inr "action", V.ref d3), (Sum.inr "rest", V.ref d4), (Sum.inr "done", V.ref d5)]) (Sum.inr "field") (V.ref d6))) n3).trans e3
      have e4 := (upd_ne (H := J6) (o := .dK (putK (mergeK [] [(Sum.inr "", V.ref d0), (Sum.inr "widths", V.ref d1), (Sum.inr "rules", V.ref d2), (Sum.inr "action", V.ref d3), (Sum.inr "rest", V.ref d4), (Sum.inr "done", V.ref d5)]) (Sum.inr "field") (V.ref d6))) n4).trans e4
      have e5 := (upd_ne (H := J6) (o := .dK (putK (mergeK [] [(Sum.inr "", V.ref d0), (Sum.inr "widths", V.ref d1), (Sum.inr "rules", V.ref d2), (Sum.inr "action", V.ref d3), (Sum.inr "rest", V.ref d4), (Sum.inr "done", V.ref d5)]) (Sum.inr "field") (V.ref d6))) n5).trans e5
      have e6 := (upd_ne (H := J6) (o := .dK (putK (mergeK [] [(Sum.inr "", V.ref d0), (Sum.inr "widths", V.ref d1), (Sum.inr "rules", V.ref d2), (Sum.inr "action", V.ref d3), (Sum.inr "rest", V.ref d4), (Sum.inr "done", V.ref d5)]) (Sum.inr "field") (V.ref d6))) n6).trans e6
      generalize upd J6 t (.dK (putK (mergeK [] [(Sum.inr "", V.ref d0), (Sum.inr "widths", V.ref d1), (Sum.inr "rules", V.ref d2), (Sum.inr "action", V.ref d3), (Sum.inr "rest", V.ref d4), (Sum.inr "done", V.ref d5)]) (Sum.inr "field") (V.ref d6))) = G7 at r7 et e0 e1 e2 e3 e4 e5 e6 ⊢
      refine fun d7 hd7 => ⟨upd_same, [(Sum.inr "number", V.str "low"), (Sum.inr "*", V.str "behind"), (Sum.inr "..", V.str "high"), (Sum.inr ";", V.str "rules")], rfl, by show 4 ≤ 15; decide, ?_⟩
      have n7 : d7 ≠ t := (ne_of_none et hd7).symm
      rw [upd_upd]
      have s8 : Same G7 (upd G7 d7 (.dK (mergeK [] [(Sum.inr "number", V.str "low"), (Sum.inr "*", V.str "behind"), (Sum.inr "..", V.str "high"), (Sum.inr ";", V.str "rules")]))) := same_new hd7
      have e7 : (upd G7 d7 (.dK (mergeK [] [(Sum.inr "number", V.str "low"), (Sum.inr "*", V.str "behind"), (Sum.inr "..", V.str "high"), (Sum.inr ";", V.str "rules")]))) d7 = some (.dK (inK .low)) := upd_same
      generalize upd G7 d7 (.dK (mergeK [] [(Sum.inr "number", V.str "low"), (Sum.inr "*", V.str "behind"), (Sum.inr "..", V.str "high"), (Sum.inr ";", V.str "rules")])) = J7 at s8 e7 ⊢
      have et := s8 _ _ et
      have e0 := s8 _ _ e0
      have e1 := s8 _ _ e1
      have e2 := s8 _ _ e2
      have e3 := s8 _ _ e3
      have e4 := s8 _ _ e4
      have e5 := s8 _ _ e5
      have e6 := s8 _ _ e6
      have u7 := r7.trans s8
      refine ⟨_, rfl, t, _, rfl, .inl ⟨_, Sum.inr "low", et, rfl, ?_, rfl⟩, ?_⟩
      · refine Evl.sz_lt ?_
        have l6 := length_putK (mergeK [] [(Sum.inr "", V.ref d0), (Sum.inr "widths", V.ref d1), (Sum.inr "rules", V.ref d2), (Sum.inr "action", V.ref d3), (Sum.inr "rest", V.ref d4), (Sum.inr "done", V.ref d5)]) (Sum.inr "field") (V.ref d6)
        omega
      have r8 : Same H (upd J7 t (.dK (putK (putK (mergeK [] [(Sum.inr "", V.ref d0), (Sum.inr "widths", V.ref d1), (Sum.inr "rules", V.ref d2), (Sum.inr "action", V.ref d3), (Sum.inr "rest", V.ref d4), (Sum.inr "done", V.ref d5)]) (Sum.inr "field") (V.ref d6)) (Sum.inr "low") (V.ref d7)))) := s_mut u7 ht
      have et : (upd J7 t (.dK (putK (putK (mergeK [] [(Sum.inr "", V.ref d0), (Sum.inr "widths", V.ref d1), (Sum.inr "rules", V.ref d2), (Sum.inr "action", V.ref d3), (Sum.inr "rest", V.ref d4), (Sum.inr "done", V.ref d5)]) (Sum.inr "field") (V.ref d6)) (Sum.inr "low") (V.ref d7)))) t = some (.dK (putK (putK (mergeK [] [(Sum.inr "", V.ref d0), (Sum.inr "widths", V.ref d1), (Sum.inr "rules", V.ref d2), (Sum.inr "action", V.ref d3), (Sum.inr "rest", V.ref d4), (Sum.inr "done", V.ref d5)]) (Sum.inr "field") (V.ref d6)) (Sum.inr "low") (V.ref d7))) := upd_same
      have e0 := (upd_ne (H := J7) (o := .dK (putK (putK (mergeK [] [(Sum.inr "", V.ref d0), (Sum.inr "widths", V.ref d1), (Sum.inr "rules", V.ref d2), (Sum.inr "action", V.ref d3), (Sum.inr "rest", V.ref d4), (Sum.inr "done", V.ref d5)]) (Sum.inr "field") (V.ref d6)) (Sum.inr "low") (V.ref d7))) n0).trans e0
      have e1 := (upd_ne (H := J7) (o := .dK (putK (putK (mergeK [] [(Sum.inr "", V.ref d0), (Sum.inr "widths", V.ref d1), (Sum.inr "rules", V.ref d2), (Sum.inr "action", V.ref d3), (Sum.inr "rest", V.ref d4), (Sum.inr "done", V.ref d5)]) (Sum.inr "field") (V.ref d6)) (Sum.inr "low") (V.ref d7))) n1).trans e1
      have e2 := (upd_ne (H := J7) (o := .dK (putK (putK (mergeK [] [(Sum.inr "", V.ref d0), (Sum.inr "widths", V.ref d1), (Sum.inr "rules", V.ref d2), (Sum.inr "action", V.ref d3), (Sum.inr "rest", V.ref d4), (Sum.inr "done", V.ref d5)]) (Sum.inr "field") (V.ref d6)) (Sum.inr "low") (V.ref d7))) n2).trans e2
      have e3 := (upd_ne (H := J7) (o := .dK (putK (putK (mergeK [] [(Sum.inr "", V.ref d0), (Sum.inr "widths", V.ref d1), (Sum.inr "rules", V.ref d2), (Sum.inr "action", V.ref d3), (Sum.inr "rest", V.ref d4), (Sum.inr "done", V.ref d5)]) (Sum.inr "field") (V.ref d6)) (Sum.inr "low") (V.ref d7))) n3).trans e3
      have e4 := (upd_ne (H := J7) (o := .dK (putK (putK (mergeK [] [(Sum.inr "", V.ref d0), (Sum.inr "widths", V.ref d1), (Sum.inr "rules", V.ref d2), (Sum.inr "action", V.ref d3), (Sum.inr "rest", V.ref d4), (Sum.inr "done", V.ref d5)]) (Sum.inr "field") (V.ref d6)) (Sum.inr "low") (V.ref d7))) n4).trans e4
      have e5 := (upd_ne (H := J7) (o := .dK (putK (putK (mergeK [] [(Sum.inr "", V.ref d0), (Sum.inr "widths", V.ref d1), (Sum.inr "rules", V.ref d2), (Sum.inr "action", V.ref d3), (Sum.inr "rest", V.ref d4), (Sum.inr "done", V.ref d5)]) (Sum.inr "field") (V.ref d6)) (Sum.inr "low") (V.ref d7))) n5).trans e5
      have e6 := (upd_ne (H := J7) (o := .dK (putK (putK (mergeK [] [(Sum.inr "", V.ref d0), (Sum.inr "widths", V.ref d1), (Sum.inr "rules", V.ref d2), (Sum.inr "action", V.ref d3), (Sum.inr "rest", V.ref d4), (Sum.inr "done", V.ref d5)]) (Sum.inr "field") (V.ref d6)) (Sum.inr "low") (V.ref d7))) n6).trans e6
      have e7 := (upd_ne (H := J7) (o := .dK (putK (putK (mergeK [] [(Sum.inr "", V.ref d0), (Sum.inr "widths", V.ref d1), (Sum.inr "rules", V.ref d2), (Sum.inr "action", V.ref d3), (Sum.inr "rest", V.ref d4), (Sum.inr "done", V.ref d5)]) (Sum.inr "field") (V.ref d6)) (Sum.inr "low") (V.ref d7))) n7).trans e7
      generalize upd J7 t (.dK (putK (putK (mergeK [] [(Sum.inr "", V.ref d0), (Sum.inr "widths", V.ref d1), (Sum.inr "rules", V.ref d2), (Sum.inr "action", V.ref d3), (Sum.inr "rest", V.ref d4), (Sum.inr "done", V.ref d5)]) (Sum.inr "field") (V.ref d6)) (Sum.inr "low") (V.ref d7))) = G8 at r8 et e0 e1 e2 e3 e4 e5 e6 e7 ⊢
      refine fun d8 hd8 => ⟨upd_same, [(Sum.inr "number", V.str "behind")], rfl, by show 1 ≤ 15; decide, ?_⟩
      have n8 : d8 ≠ t := (ne_of_none et hd8).symm
      rw [upd_upd]
      have s9 : Same G8 (upd G8 d8 (.dK (mergeK [] [(Sum.inr "number", V.str "behind")]))) := same_new hd8
      have e8 : (upd G8 d8 (.dK (mergeK [] [(Sum.inr "number", V.str "behind")]))) d8 = some (.dK (inK .high)) := upd_same
      generalize upd G8 d8 (.dK (mergeK [] [(Sum.inr "number", V.str "behind")])) = J8 at s9 e8 ⊢
      have et := s9 _ _ et
      have e0 := s9 _ _ e0
      have e1 := s9 _ _ e1
      have e2 := s9 _ _ e2
      have e3 := s9 _ _ e3
      have e4 := s9 _ _ e4
      have e5 := s9 _ _ e5
      have e6 := s9 _ _ e6
      have e7 := s9 _ _ e7
      have u8 := r8.trans s9
      refine ⟨_, rfl, t, _, rfl, .inl ⟨_, Sum.inr "high", et, rfl, ?_, rfl⟩, ?_⟩
      · refine Evl.sz_lt ?_
        have l6 := length_putK (mergeK [] [(Sum.inr "", V.ref d0), (Sum.inr "widths", V.ref d1), (Sum.inr "rules", V.ref d2), (Sum.inr "action", V.ref d3), (Sum.inr "rest", V.ref d4), (Sum.inr "done", V.ref d5)]) (Sum.inr "field") (V.ref d6)
        have l7 := length_putK (putK (mergeK [] [(Sum.inr "", V.ref d0), (Sum.inr "widths", V.ref d1), (Sum.inr "rules", V.ref d2), (Sum.inr "action", V.ref d3), (Sum.inr "rest", V.ref d4), (Sum.inr "done", V.ref d5)]) (Sum.inr "field") (V.ref d6)) (Sum.inr "low") (V.ref d7)
        omega
      have r9 : Same H (upd J8 t (.dK (putK (putK (putK (mergeK [] [(Sum.inr "", V.ref d0), (Sum.inr "widths", V.ref d1), (Sum.inr "rules", V.ref d2), (Sum.inr "action", V.ref d3), (Sum.inr "rest", V.ref d4), (Sum.inr "done", V.ref d5)]) (Sum.inr "field") (V.ref d6)) (Sum.inr "low") (V.ref d7)) (Sum.inr "high") (V.ref d8)))) := s_mut u8 ht
      have et : (upd J8 t (.dK (putK (putK (putK (mergeK [] [(Sum.inr "", V.ref d0), (Sum.inr "widths", V.ref d1), (Sum.inr "rules", V.ref d2), (Sum.inr "action", V.ref d3), (Sum.inr "rest", V.ref d4), (Sum.inr "done", V.ref d5)]) (Sum.inr "field") (V.ref d6)) (Sum.inr "low") (V.ref d7)) (Sum.inr "high") (V.ref d8)))) t = some (.dK (putK (putK (putK (mergeK [] [(Sum.inr "", V.ref d0), (Sum.inr "widths", V.ref d1), (Sum.inr "rules", V.ref d2), (Sum.inr "action", V.ref d3), (Sum.inr "rest", V.ref d4), (Sum.inr "done", V.ref d5)]) (Sum.inr "field") (V.ref d6)) (Sum.inr "low") (V.ref d7)) (Sum.inr "high") (V.ref d8))) := upd_same
      have e0 := (upd_ne (H := J8) (o := .dK (putK (putK (putK (mergeK [] [(Sum.inr "", V.ref d0), (Sum.inr "widths", V.ref d1), (Sum.inr "rules", V.ref d2), (Sum.inr "action", V.ref d3), (Sum.inr "rest", V.ref d4), (Sum.inr "done", V.ref d5)]) (Sum.inr "field") (V.ref d6)) (Sum.inr "low") (V.ref d7)) (Sum.inr "high") (V.ref d8))) n0).trans e0
      have e1 := (upd_ne (H := J8) (o := .dK (putK (putK (putK (mergeK [] [(Sum.inr "", V.ref d0), (Sum.inr "widths", V.ref d1), (Sum.inr "rules", V.ref d2), (Sum.inr "action", V.ref d3), (Sum.inr "rest", V.ref d4), (Sum.inr "done", V.ref d5)]) (Sum.inr "field") (V.ref d6)) (Sum.inr "low") (V.ref d7)) (Sum.inr "high") (V.ref d8))) n1).trans e1
      have e2 := (upd_ne (H := J8) (o := .dK (putK (putK (putK (mergeK [] [(Sum.inr "", V.ref d0), (Sum.inr "widths", V.ref d1), (Sum.inr "rules", V.ref d2), (Sum.inr "action", V.ref d3), (Sum.inr "rest", V.ref d4), (Sum.inr "done", V.ref d5)]) (Sum.inr "field") (V.ref d6)) (Sum.inr "low") (V.ref d7)) (Sum.inr "high") (V.ref d8))) n2).trans e2
      have e3 := (upd_ne (H := J8) (o := .dK (putK (putK (putK (mergeK [] [(Sum.inr "", V.ref d0), (Sum.inr "widths", V.ref d1), (Sum.inr "rules", V.ref d2), (Sum.inr "action", V.ref d3), (Sum.inr "rest", V.ref d4), (Sum.inr "done", V.ref d5)]) (Sum.inr "field") (V.ref d6)) (Sum.inr "low") (V.ref d7)) (Sum.inr "high") (V.ref d8))) n3).trans e3
      have e4 := (upd_ne (H := J8) (o := .dK (putK (putK (putK (mergeK [] [(Sum.inr "", V.ref d0), (Sum.inr "widths", V.ref d1), (Sum.inr "rules", V.ref d2), (Sum.inr "action", V.ref d3), (Sum.inr "rest", V.ref d4), (Sum.inr "done", V.ref d5)]) (Sum.inr "field") (V.ref d6)) (Sum.inr "low") (V.ref d7)) (Sum.inr "high") (V.ref d8))) n4).trans e4
      have e5 := (upd_ne (H := J8) (o := .dK (putK (putK (putK (mergeK [] [(Sum.inr "", V.ref d0), (Sum.inr "widths", V.ref d1), (Sum.inr "rules", V.ref d2), (Sum.inr "action", V.ref d3), (Sum.inr "rest", V.ref d4), (Sum.inr "done", V.ref d5)]) (Sum.inr "field") (V.ref d6)) (Sum.inr "low") (V.ref d7)) (Sum.inr "high") (V.ref d8))) n5).trans e5
      have e6 := (upd_ne (H := J8) (o := .dK (putK (putK (putK (mergeK [] [(Sum.inr "", V.ref d0), (Sum.inr "widths", V.ref d1), (Sum.inr "rules", V.ref d2), (Sum.inr "action", V.ref d3), (Sum.inr "rest", V.ref d4), (Sum.inr "done", V.ref d5)]) (Sum.inr "field") (V.ref d6)) (Sum.inr "low") (V.ref d7)) (Sum.inr "high") (V.ref d8))) n6).trans e6
      have e7 := (upd_ne (H := J8) (o := .dK (putK (putK (putK (mergeK [] [(Sum.inr "", V.ref d0), (Sum.inr "widths", V.ref d1), (Sum.inr "rules", V.ref d2), (Sum.inr "action", V.ref d3), (Sum.inr "rest", V.ref d4), (Sum.inr "done", V.ref d5)]) (Sum.inr "field") (V.ref d6)) (Sum.inr "low") (V.ref d7)) (Sum.inr "high") (V.ref d8))) n7).trans e7
      have e8 := (upd_ne (H := J8) (o := .dK (putK (putK (putK (mergeK [] [(Sum.inr "", V.ref d0), (Sum.inr "widths", V.ref d1), (Sum.inr "rules", V.ref d2), (Sum.inr "action", V.ref d3), (Sum.inr "rest", V.ref d4), (Sum.inr "done", V.ref d5)]) (Sum.inr "field") (V.ref d6)) (Sum.inr "low") (V.ref d7)) (Sum.inr "high") (V.ref d8))) n8).trans e8
      generalize upd J8 t (.dK (putK (putK (putK (mergeK [] [(Sum.inr "", V.ref d0), (Sum.inr "widths", V.ref d1), (Sum.inr "rules", V.ref d2), (Sum.inr "action", V.ref d3), (Sum.inr "rest", V.ref d4), (Sum.inr "done", V.ref d5)]) (Sum.inr "field") (V.ref d6)) (Sum.inr "low") (V.ref d7)) (Sum.inr "high") (V.ref d8))) = G9 at r9 et e0 e1 e2 e3 e4 e5 e6 e7 e8 ⊢
      refine fun d9 hd9 => ⟨upd_same, [(Sum.inr "number", V.str "low"), (Sum.inr "*", V.str "behind"), (Sum.inr ";", V.str "rules")], rfl, by show 3 ≤ 15; decide, ?_⟩
      have n9 : d9 ≠ t := (ne_of_none et hd9).symm
      rw [upd_upd]
      have s10 : Same G9 (upd G9 d9 (.dK (mergeK [] [(Sum.inr "number", V.str "low"), (Sum.inr "*", V.str "behind"), (Sum.inr ";", V.str "rules")]))) := same_new hd9
      have e9 : (upd G9 d9 (.dK (mergeK [] [(Sum.inr "number", V.str "low"), (Sum.inr "*", V.str "behind"), (Sum.inr ";", V.str "rules")]))) d9 = some (.dK (inK .behind)) := upd_same
      generalize upd G9 d9 (.dK (mergeK [] [(Sum.inr "number", V.str "low"), (Sum.inr "*", V.str "behind"), (Sum.inr ";", V.str "rules")])) = J9 at s10 e9 ⊢
      have et := s10 _ _ et
      have e0 := s10 _ _ e0
      have e1 := s10 _ _ e1
      have e2 := s10 _ _ e2
      have e3 := s10 _ _ e3
      have e4 := s10 _ _ e4
      have e5 := s10 _ _ e5
      have e6 := s10 _ _ e6
      have e7 := s10 _ _ e7
      have e8 := s10 _ _ e8
      have u9 := r9.trans s10
      refine ⟨_, rfl, t, _, rfl, .inl ⟨_, Sum.inr "behind", et, rfl, ?_, rfl⟩, ?_⟩
      · refine Evl.sz_lt ?_
        have l6 := length_putK (mergeK [] [(Sum.inr "", V.ref d0), (Sum.inr "widths", V.ref d1), (Sum.inr "rules", V.ref d2), (Sum.inr "action", V.ref d3), (Sum.inr "rest", V.ref d4), (Sum.inr "done", V.ref d5)]) (Sum.inr "field") (V.ref d6)
        have l7 := length_putK (putK (mergeK [] [(Sum.inr "", V.ref d0), (Sum.inr "widths", V.ref d1), (Sum.inr "rules", V.ref d2), (Sum.inr "action", V.ref d3), (Sum.inr "rest", V.ref d4), (Sum.inr "done", V.ref d5)]) (Sum.inr "field") (V.ref d6)) (Sum.inr "low") (V.ref d7)
        have l8 := length_putK (putK (putK (mergeK [] [(Sum.inr "", V.ref d0), (Sum.inr "widths", V.ref d1), (Sum.inr "rules", V.ref d2), (Sum.inr "action", V.ref d3), (Sum.inr "rest", V.ref d4), (Sum.inr "done", V.ref d5)]) (Sum.inr "field") (V.ref d6)) (Sum.inr "low") (V.ref d7)) (Sum.inr "high") (V.ref d8)
        omega
      have r10 : Same H (upd J9 t (.dK (putK (putK (putK (putK (mergeK [] [(Sum.inr "", V.ref d0), (Sum.inr "widths", V.ref d1), (Sum.inr "rules", V.ref d2), (Sum.inr "action", V.ref d3), (Sum.inr "rest", V.ref d4), (Sum.inr "done", V.ref d5)]) (Sum.inr "field") (V.ref d6)) (Sum.inr "low") (V.ref d7)) (Sum.inr "high") (V.ref d8)) (Sum.inr "behind") (V.ref d9)))) := s_mut u9 ht
      have et : (upd J9 t (.dK (putK (putK (putK (putK (mergeK [] [(Sum.inr "", V.ref d0), (Sum.inr "widths", V.ref d1), (Sum.inr "rules", V.ref d2), (Sum.inr "action", V.ref d3), (Sum.inr "rest", V.ref d4), (Sum.inr "done", V.ref d5)]) (Sum.inr "field") (V.ref d6)) (Sum.inr "low") (V.ref d7)) (Sum.inr "high") (V.ref d8)) (Sum.inr "behind") (V.ref d9)))) t = some (.dK (putK (putK (putK (putK (mergeK [] [(Sum.inr "", V.ref d0), (Sum.inr "widths", V.ref d1), (Sum.inr "rules", V.ref d2), (Sum.inr "action", V.ref d3), (Sum.inr "rest", V.ref d4), (Sum.inr "done", V.ref d5)]) (Sum.inr "field") (V.ref d6)) (Sum.inr "low") (V.ref d7)) (Sum.inr "high") (V.ref d8)) (Sum.inr "behind") (V.ref d9))) := upd_same
      have e0 := (upd_ne (H := J9) (o := .dK (putK (putK (putK (putK (mergeK [] [(Sum.inr "", V.ref d0), (Sum.inr "widths", V.ref d1), (Sum.inr "rules", V.ref d2), (Sum.inr "action", V.ref d3), (Sum.inr "rest", V.ref d4), (Sum.inr "done", V.ref d5)]) (Sum.inr "field") (V.ref d6)) (Sum.inr "low") (V.ref d7)) (Sum.inr "high") (V.ref d8)) (Sum.inr "behind") (V.ref d9))) n0).trans e0
      have e1 := (upd_ne (H := J9) (o := .dK (putK (putK (putK (putK (mergeK [] [(Sum.inr "", V.ref d0), (Sum.inr "widths", V.ref d1), (Sum.inr "rules", V.ref d2), (Sum.inr "action", V.ref d3), (Sum.inr "rest", V.ref d4), (Sum.inr "done", V.ref d5)]) (Sum.inr "field") (V.ref d6)) (Sum.inr "low") (V.ref d7)) (Sum.inr "high") (V.ref d8)) (Sum.inr "behind") (V.ref d9))) n1).trans e1
      have e2 := (upd_ne (H := J9) (o := .dK (putK (putK (putK (putK (mergeK [] [(Sum.inr "", V.ref d0), (Sum.inr "widths", V.ref d1), (Sum.inr "rules", V.ref d2), (Sum.inr "action", V.ref d3), (Sum.inr "rest", V.ref d4), (Sum.inr "done", V.ref d5)]) (Sum.inr "field") (V.ref d6)) (Sum.inr "low") (V.ref d7)) (Sum.inr "high") (V.ref d8)) (Sum.inr "behind") (V.ref d9))) n2).trans e2
      have e3 := (upd_ne (H := J9) (o := .dK (putK (putK (putK (putK (mergeK [] [(Sum.inr "", V.ref d0), (Sum.inr "widths", V.ref d1), (Sum.inr "rules", V.ref d2), (Sum.inr "action", V.ref d3), (Sum.inr "rest", V.ref d4), (Sum.inr "done", V.ref d5)]) (Sum.inr "field") (V.ref d6)) (Sum.inr "low") (V.ref d7)) (Sum.inr "high") (V.ref d8)) (Sum.inr "behind") (V.ref d9))) n3).trans e3
      have e4 := (upd_ne (H := J9) (o := .dK (putK (putK (putK (putK (mergeK [] [(Sum.inr "", V.ref d0), (Sum.inr "widths", V.ref d1), (Sum.inr "rules", V.ref d2), (Sum.inr "action", V.ref d3), (Sum.inr "rest", V.ref d4), (Sum.inr "done", V.ref d5)]) (Sum.inr "field") (V.ref d6)) (Sum.inr "low") (V.ref d7)) (Sum.inr "high") (V.ref d8)) (Sum.inr "behind") (V.ref d9))) n4).trans e4
      have e5 := (upd_ne (H := J9) (o := .dK (putK (putK (putK (putK (mergeK [] [(Sum.inr "", V.ref d0), (Sum.inr "widths", V.ref d1), (Sum.inr "rules", V.ref d2), (Sum.inr "action", V.ref d3), (Sum.inr "rest", V.ref d4), (Sum.inr "done", V.ref d5)]) (Sum.inr "field") (V.ref d6)) (Sum.inr "low") (V.ref d7)) (Sum.inr "high") (V.ref d8)) (Sum.inr "behind") (V.ref d9))) n5).trans e5
      have e6 := (upd_ne (H := J9) (o := .dK (putK (putK (putK (putK (mergeK [] [(Sum.inr "", V.ref d0), (Sum.inr "widths", V.ref d1), (Sum.inr "rules", V.ref d2), (Sum.inr "action", V.ref d3), (Sum.inr "rest", V.ref d4), (Sum.inr "done", V.ref d5)]) (Sum.inr "field") (V.ref d6)) (Sum.inr "low") (V.ref d7)) (Sum.inr "high") (V.ref d8)) (Sum.inr "behind") (V.ref d9))) n6).trans e6
      have e7 := (upd_ne (H := J9) (o := .dK (putK (putK (putK (putK (mergeK [] [(Sum.inr "", V.ref d0), (Sum.inr "widths", V.ref d1), (Sum.inr "rules", V.ref d2), (Sum.inr "action", V.ref d3), (Sum.inr "rest", V.ref d4), (Sum.inr "done", V.ref d5)]) (Sum.inr "field") (V.ref d6)) (Sum.inr "low") (V.ref d7)) (Sum.inr "high") (V.ref d8)) (Sum.inr "behind") (V.ref d9))) n7).trans e7
      have e8 := (upd_ne (H := J9) (o := .dK (putK (putK (putK (putK (mergeK [] [(Sum.inr "", V.ref d0), (Sum.inr "widths", V.ref d1), (Sum.inr "rules", V.ref d2), (Sum.inr "action", V.ref d3), (Sum.inr "rest", V.ref d4), (Sum.inr "done", V.ref d5)]) (Sum.inr "field") (V.ref d6)) (Sum.inr "low") (V.ref d7)) (Sum.inr "high") (V.ref d8)) (Sum.inr "behind") (V.ref d9))) n8).trans e8
      have e9 := (upd_ne (H := J9) (o := .dK (putK (putK (putK (putK (mergeK [] [(Sum.inr "", V.ref d0), (Sum.inr "widths", V.ref d1), (Sum.inr "rules", V.ref d2), (Sum.inr "action", V.ref d3), (Sum.inr "rest", V.ref d4), (Sum.inr "done", V.ref d5)]) (Sum.inr "field") (V.ref d6)) (Sum.inr "low") (V.ref d7)) (Sum.inr "high") (V.ref d8)) (Sum.inr "behind") (V.ref d9))) n9).trans e9
      generalize upd J9 t (.dK (putK (putK (putK (putK (mergeK [] [(Sum.inr "", V.ref d0), (Sum.inr "widths", V.ref d1), (Sum.inr "rules", V.ref d2), (Sum.inr "action", V.ref d3), (Sum.inr "rest", V.ref d4), (Sum.inr "done", V.ref d5)]) (Sum.inr "field") (V.ref d6)) (Sum.inr "low") (V.ref d7)) (Sum.inr "high") (V.ref d8)) (Sum.inr "behind") (V.ref d9))) = G10 at r10 et e0 e1 e2 e3 e4 e5 e6 e7 e8 e9 ⊢
      refine ⟨_, rfl, k t _ r10 ⟨_, et, fun s hs => ?_⟩⟩
      have hs2 : s ≠ .row ∧ s ≠ .z := by
        rcases hs with ⟨h, _⟩ | ⟨_, h⟩
        · exact absurd h (by decide +kernel)
        · exact h
      cases s with
      | start => exact ⟨d0, by kernel_rfl, e0⟩
      | widths => exact ⟨d1, by kernel_rfl, e1⟩
      | rules => exact ⟨d2, by kernel_rfl, e2⟩
      | action => exact ⟨d3, by kernel_rfl, e3⟩
      | rest => exact ⟨d4, by kernel_rfl, e4⟩
      | done => exact ⟨d5, by kernel_rfl, e5⟩
      | field => exact ⟨d6, by kernel_rfl, e6⟩
      | low => exact ⟨d7, by kernel_rfl, e7⟩
      | high => exact ⟨d8, by kernel_rfl, e8⟩
      | behind => exact ⟨d9, by kernel_rfl, e9⟩
      | row => exact absurd rfl hs2.1
      | z => exact absurd rfl hs2.2
    · rw [decide_eq_true rfl]
      refine iteT fun t ht d hd => ⟨upd_same, [(Sum.inr "number", V.str ""), (Sum.inr "end", V.str "z")], rfl, by show 2 ≤ 15; decide, ?_⟩
      have ndt : t ≠ d := (ne_of_none upd_same hd)
      rw [upd_upd]
      have s1 : Same H (upd (upd H t (.dK [])) d (.dK (mergeK [] [(Sum.inr "number", V.str ""), (Sum.inr "end", V.str "z")]))) := (same_new ht).trans (same_new hd)
      have e1 : (upd (upd H t (.dK [])) d (.dK (mergeK [] [(Sum.inr "number", V.str ""), (Sum.inr "end", V.str "z")]))) d = some (.dK (inK .row)) := upd_same
      have et : (upd (upd H t (.dK [])) d (.dK (mergeK [] [(Sum.inr "number", V.str ""), (Sum.inr "end", V.str "z")]))) t = some (.dK []) := (upd_ne ndt).trans upd_same
      generalize upd (upd H t (.dK [])) d (.dK (mergeK [] [(Sum.inr "number", V.str ""), (Sum.inr "end", V.str "z")])) = J at s1 e1 et ⊢
      refine ⟨et, [(Sum.inr "", V.ref d)], rfl, by show 1 ≤ 15; decide, ?_⟩
      refine k t _ (s_mut s1 ht) ⟨_, upd_same, fun s hs => ?_⟩
      have hs2 : s = .row := by
        rcases hs with ⟨_, h⟩ | ⟨h, _⟩
        · exact h
        · exact absurd h (by decide +kernel)
      subst hs2
      exact ⟨d, by kernel_rfl, (upd_ne ndt.symm).trans e1⟩
end
end K6

set_option Elab.async false
set_option linter.all false
set_option maxRecDepth 100000
set_option maxHeartbeats 4000000
set_option autoImplicit false
namespace K6
open PySem PySem.Spec PyProof.Rows L2
open TL (tl len_tl ext_tl)
/-! ### due -/
def spDue : Sp := fun vs H Q _ => ∃ (t : Addr) (kd : Str) (s : Sta), vs = [.ref t, .str s.nm] ∧ TabAt H t kd ∧ Liv kd s ∧ ∀ q H', Same H H' → H q = none → H' q = some (.lst ((dueW s).map V.str)) → Q (.ref q) H'
section
variable {P : Program} {w : World} {K : PySem.W.Frag} {mg : Str → Option Value} {base : Heap}
abbrev nDue : List Str := ["_law_table_here", "_law_state", "_law_kind"]
theorem sc_due : FnScope nDue ["_law_table_here", "_law_state"] (defScope s_l_due) := ⟨rfl, rfl, rfl, by decide +kernel, rfl, by decide +kernel, by decide +kernel⟩
theorem ok_due (T : Tx K mg) : Df P w K mg base 2 "_law_due" ["_law_table_here", "_law_state"] spDue := by
  have DK : Df P w K mg base 1 "_law_kinds" [] spKinds := ok_kinds T
  have DS : Df P w K mg base 1 "_law_shown" ["_law_kind"] spShownL := ok_shownl T
  refine df_mk T.g_l_due T.d_l_due sc_due (fun vs H Q E h => ?_) (fun _ _ _ _ _ _ us hl => match us, hl with | [_, _], _ => rfl) (fun cdv A outer s H vs Q E hr h => ?_)
  · obtain ⟨t, kd, s, rfl, _⟩ := h
    rfl
  · obtain ⟨t, kd, s, rfl, ht, hl, k⟩ := h
    have hu := hu_of hr
    refine ⟨_, pss_one (ps_ret (pe_lc (own := [("_law_kind", 2)]) (g := gName 2) (tt := tB (tDIn (tVar 2) (tDGet (tVar 0) (tVar 1)))) (te := tCallS spShownL (WE fun _ _ _ _ => False) (tCons (tVar 2) tNil)) rfl sc_due.nd (pi_list (pe_d0 DK hr)) (blkOk_by (N := nDue) (sc := defScope s_l_due) (by decide +kernel))
      (fun _ _ _ _ _ => pg_name (i := 2) sc_due.nd rfl (Or.inl rfl)) (fun _ _ _ _ _ => pts_one (pt_cmp (pc_din hu (pv 2) (pe_dget hu (pv 0) (pv 1) (fun _ _ => rfl))) rfl))
      (fun _ _ _ _ _ => pe_d DS hr takes0 (pa_cons (pv 2) pa_nil)))), ?_⟩
    refine ⟨rfl, fun q hq => ⟨q, rfl, ⟨_, SqL.of upd_same⟩, fun D hD => ?_⟩⟩
    have s1 : Same H (upd H q (.lst kindsV)) := same_new hq
    have e1 : (upd H q (.lst kindsV)) q = some (.lst kindsV) := upd_same
    generalize upd H q (.lst kindsV) = H1 at s1 e1 hD ⊢
    obtain ⟨kvs, g1, g2⟩ := ht
    obtain ⟨d, g3, g4⟩ := g2 s hl
    refine lc_list (K := K) (a := q) (xs := kindsV) (fun i H' => Same H1 H' ∧ H' D = some (.lst ((((kds.take i).filter fun k => (step s k).isSome).map Kd.shown).map V.str))) ⟨same_new hD, upd_same⟩ (fun i H' _ h => SqL.of (h.1 _ _ e1)) ?_ ?_
    · rintro i x H' hi ⟨sm, hd⟩
      obtain ⟨kd2, hkd, rfl, hm⟩ := map_at hi
      have htk : kds.take (i + 1) = kds.take i ++ [kd2] := by rw [List.take_add_one, hkd]; rfl
      have hlt := (List.getElem?_eq_some_iff.mp hkd).1
      have dg1 := DGet.k (k := Sum.inr s.nm) (sm _ _ (s1 _ _ g1))
      rw [g3] at dg1
      have dg2 := DGet.k (k := Sum.inr kd2.law) (sm _ _ (s1 _ _ g4))
      refine ⟨rfl, _, rfl, _, rfl, _, rfl, t, _, rfl, dg1, d, _, rfl, dg2, _, rfl, ?_⟩
      rw [inK_get, Option.isSome_map]
      cases hs : (step s kd2).isSome with
      | true =>
        refine iteT ⟨_, rfl, kd2, rfl, fun H2 s2 => ⟨_, s2 _ _ hd, ?_, s_mut (sm.trans s2) hD, ?_⟩⟩
        · refine Evl.sz_lt ?_
          rw [List.length_map, List.length_map]
          exact Nat.lt_of_le_of_lt (List.length_filter_le _ _) (by rw [List.length_take]; exact Nat.lt_of_le_of_lt (Nat.min_le_right _ _) (by decide +kernel))
        · rw [upd_same, htk, List.filter_append, List.map_append, List.map_append, List.filter_cons_of_pos (by rw [hs])]
          rfl
      | false =>
        refine iteF ⟨sm, ?_⟩
        rw [hd, htk, List.filter_append, List.filter_cons_of_neg (by rw [hs]; exact Bool.false_ne_true), List.filter_nil, List.append_nil]
    · rintro H' ⟨sm, hd⟩
      refine k D H' (s1.trans sm) (s1.free hD) ?_
      rw [hd]
      unfold kindsV
      rw [List.length_map, List.take_length]
      rfl
end
end K6

set_option Elab.async false
set_option linter.all false
set_option maxRecDepth 100000
set_option maxHeartbeats 4000000
set_option autoImplicit false
namespace K6
open PySem PySem.Spec PyProof.Rows L2
open TL (tl len_tl ext_tl)
/-! ### the plain law: what comes along a path -/
def walkS : Sta → List Str → Option Sta
  | s, [] => some s
  | s, x :: r => match step s (kindOf x) with
    | some s' => walkS s' r
    | none => none
theorem walkS_snoc {x : Str} : ∀ {ws : List Str} {s s' : Sta}, walkS s ws = some s' → walkS s (ws ++ [x]) = step s' (kindOf x)
  | [], s, s', h => by
    cases h
    show (match step s (kindOf x) with | some s' => walkS s' [] | none => none) = _
    cases step s (kindOf x) <;> rfl
  | y :: r, s, s', h => by
    unfold walkS at h
    show (match step s (kindOf y) with | some s' => walkS s' (r ++ [x]) | none => none) = _
    cases e : step s (kindOf y) with
    | none =>
      rw [e] at h
      cases h
    | some s2 =>
      rw [e] at h
      exact walkS_snoc (ws := r) h
def resN (b : Bool) (s : Sta) (n : Nat) (L : List Pc) (e : Nat) : Res := match scanM n L e with
  | .inl ts => run b s ts
  | .inr x => .er x.1 x.2
theorem res_N {b : Bool} {s : Sta} {L : List Pc} {e : Nat} : res b s L e = resN b s 0 L e := rfl
theorem good_fin : ∀ x ∈ goods, kindOf x ≠ .fin := by decide +kernel
theorem resN_step {b : Bool} {s s' : Sta} {n e : Nat} {p : Pc} {r : List Pc} (hg : p.2 ∈ goods) (hs : step s (kindOf p.2) = some s') : resN b s n (p :: r) e = resN b s' (n + p.1 + p.2.length) r e := by
  unfold resN
  rw [scanM_good (goods_facts _ hg).2.1]
  cases scanM (n + p.1 + p.2.length) r e with
  | inr x => rfl
  | inl ts =>
    show run b s (⟨kindOf p.2, p.2, n + p.1 + 1⟩ :: ts) = run b s' ts
    have hf := good_fin _ hg
    rw [run, if_neg (fun z => hf z.1), hs]
    exact if_neg hf
theorem resN_path {b : Bool} {e : Nat} {M : List Pc} : ∀ {L : List Pc} {s s' : Sta} {n : Nat}, (∀ p ∈ L, p.2 ∈ goods) → walkS s (L.map (·.2)) = some s' → resN b s n (L ++ M) e = resN b s' (n + (L.flatMap pcs).length) M e
  | [], s, s', n, _, h => by
    cases h
    rfl
  | p :: r, s, s', n, hg, h => by
    have h' : (match step s (kindOf p.2) with | some s' => walkS s' (r.map (·.2)) | none => none) = some s' := h
    cases e1 : step s (kindOf p.2) with
    | none =>
      rw [e1] at h'
      cases h'
    | some s2 =>
      rw [e1] at h'
      have el : (List.flatMap pcs (p :: r)).length = p.1 + p.2.length + (r.flatMap pcs).length := by
        show ((List.replicate p.1 32 ++ tl p.2) ++ r.flatMap pcs).length = _
        simp only [List.length_append, List.length_replicate]
        rw [← len_tl]
      have st := resN_step (b := b) (n := n) (e := e) (r := r ++ M) (hg p List.mem_cons_self) e1
      show resN b s n (p :: (r ++ M)) e = _
      rw [st, resN_path (fun q hq => hg q (List.mem_cons_of_mem _ hq)) h', el, Nat.add_assoc, Nat.add_assoc, Nat.add_assoc]
theorem resN_end {b : Bool} {s : Sta} {n e : Nat} : resN b s n [] e = if b = true then .ah (dueW s) else match step s .fin with
    | none => .er (n + e + 1) (expd (dueW s))
    | some _ => .ok := by
  cases b
  · show run false s [⟨.fin, "", n + e + 1⟩] = _
    rw [run, if_neg (fun z => Bool.noConfusion z.2)]
    cases step s .fin <;> rfl
  · rfl
theorem resN_bad {b : Bool} {s : Sta} {n e : Nat} {p : Pc} {r : List Pc} {ts : List Tk} (hg : p.2 ∈ goods) (hs : step s (kindOf p.2) = none) (h : scanM (n + p.1 + p.2.length) r e = .inl ts) : resN b s n (p :: r) e = .er (n + p.1 + 1) (expd (dueW s)) := by
  unfold resN
  rw [scanM_good (goods_facts _ hg).2.1, h]
  show run b s (⟨kindOf p.2, p.2, n + p.1 + 1⟩ :: ts) = _
  rw [run, if_neg (fun z => good_fin _ hg z.1), hs]
theorem resN_strange {b : Bool} {s : Sta} {n e : Nat} {p q : Pc} {m : Str} (hg : p.2 ∈ goods) (hb : (q.2, m) ∈ bads) : resN b s n [p, q] e = .er (n + p.1 + p.2.length + q.1 + 1) m := by
  unfold resN
  rw [scanM_good (goods_facts _ hg).2.1, scanM_bad (bads_facts _ hb).1]
  rfl
theorem scan_goods {e : Nat} : ∀ {L : List Pc} {n : Nat}, (∀ p ∈ L, p.2 ∈ goods) → ∃ ts, scanM n L e = .inl ts
  | [], n, _ => ⟨_, rfl⟩
  | p :: r, n, h => by
    obtain ⟨ts, e1⟩ := scan_goods (n := n + p.1 + p.2.length) (L := r) fun q hq => h q (List.mem_cons_of_mem _ hq)
    rw [scanM_good (goods_facts _ (h p List.mem_cons_self)).2.1, e1]
    exact ⟨_, rfl⟩
/-- the words' pieces -/
theorem split_last {L : List Pc} {ws : List Str} {x : Str} (h : L.map (·.2) = ws ++ [x]) : ∃ L' p, L = L' ++ [p] ∧ L'.map (·.2) = ws ∧ p.2 = x := by
  have hne : L ≠ [] := by
    rintro rfl
    cases ws <;> cases h
  refine ⟨L.dropLast, L.getLast hne, (List.dropLast_concat_getLast hne).symm, ?_, ?_⟩
  · rw [List.map_dropLast, h, List.dropLast_concat]
  · have h2 : (L.map (·.2)).getLast? = some x := by
      rw [h]
      exact List.getLast?_concat
    rw [List.getLast?_map, List.getLast?_eq_some_getLast hne] at h2
    exact Option.some.inj h2
theorem laid_len {z : Str} {L : List Pc} {e : Nat} (h : LaidT z L e) : z.length = (L.flatMap pcs).length + e := by
  rw [len_tl, h.2.1, List.length_append, List.length_replicate]
theorem mem_goods {L : List Pc} {ws : List Str} (h : L.map (·.2) = ws) (hg : ∀ x ∈ ws, x ∈ goods) : ∀ p ∈ L, p.2 ∈ goods := fun p hp => hg _ (by rw [← h]; exact List.mem_map_of_mem hp)
theorem right_true {s0 s : Sta} {z : Str} {L : List Pc} {e : Nat} {ws : List Str} (hL : LaidT z L e) (h : L.map (·.2) = ws) (hg : ∀ x ∈ ws, x ∈ goods) (hw : walkS s0 ws = some s) : res true s0 L e = .ah (dueW s) := by
  subst h
  have q := resN_path (b := true) (e := e) (M := []) (n := 0) (mem_goods rfl hg) hw
  rw [List.append_nil] at q
  rw [res_N, q, resN_end]
  rfl
theorem right_false {s0 s : Sta} {z : Str} {L : List Pc} {e : Nat} {ws : List Str} (hL : LaidT z L e) (h : L.map (·.2) = ws) (hg : ∀ x ∈ ws, x ∈ goods) (hw : walkS s0 ws = some s) : res false s0 L e = match step s .fin with
    | none => .er (z.length + 1) (expd (dueW s))
    | some _ => .ok := by
  subst h
  have q := resN_path (b := false) (e := e) (M := []) (n := 0) (mem_goods rfl hg) hw
  rw [List.append_nil] at q
  rw [res_N, q, resN_end, laid_len hL, Nat.zero_add]
  rfl
theorem cols_at {L : List Pc} {p : Pc} {rest : List Nat} : (cols 0 (L ++ [p]) ++ rest)[L.length]? = some ((L.flatMap pcs).length + p.1 + 1) := by
  rw [cols_snoc, List.append_assoc, List.getElem?_append_right (by rw [cols_len]; exact Nat.le_refl _), cols_len, Nat.sub_self, Nat.zero_add]
  rfl
theorem map_len {L : List Pc} {ws : List Str} (h : L.map (·.2) = ws) : L.length = ws.length := by rw [← h, List.length_map]
theorem on_bad {b : Bool} {s0 s : Sta} {L : List Pc} {e : Nat} {ws r : List Str} {x : Str} (h : L.map (·.2) = ws ++ x :: r) (hg : ∀ y ∈ ws, y ∈ goods) (hx : x ∈ goods) (hr : ∀ y ∈ r, y ∈ goods) (hw : walkS s0 ws = some s) (hs : step s (kindOf x) = none) (rest : List Nat) :
    ∃ c, (cols 0 L ++ rest)[ws.length]? = some c ∧ res b s0 L e = .er c (expd (dueW s)) := by
  obtain ⟨L1, L2, rfl, h1, h2⟩ := List.map_eq_append_iff.mp h
  obtain ⟨p, M, rfl, h3, h4⟩ := List.map_eq_cons_iff.mp h2
  subst h1 h3 h4
  refine ⟨(L1.flatMap pcs).length + p.1 + 1, ?_, ?_⟩
  · have e1 : L1 ++ p :: M = L1 ++ [p] ++ M := by simp
    have e2 : ∀ (A B : List Pc) (n : Nat), ∃ C, cols n (A ++ B) = cols n A ++ C := by
      intro A
      induction A with
      | nil => exact fun B n => ⟨_, rfl⟩
      | cons a A ih =>
        intro B n
        obtain ⟨C, hC⟩ := ih B (n + a.1 + a.2.length)
        exact ⟨C, by show _ :: cols _ (A ++ B) = _ :: (cols _ A ++ C); rw [hC]⟩
    obtain ⟨C, hC⟩ := e2 (L1 ++ [p]) M 0
    rw [e1, hC, List.append_assoc, List.length_map]
    exact cols_at
  · have q := resN_path (b := b) (e := e) (M := p :: M) (n := 0) (mem_goods rfl hg) hw
    obtain ⟨ts, ht⟩ := scan_goods (L := M) (e := e) (n := 0 + (L1.flatMap pcs).length + p.1 + p.2.length) (mem_goods rfl hr)
    rw [res_N, q, resN_bad hx hs ht, Nat.zero_add]
theorem on_strange {b : Bool} {s0 s : Sta} {L : List Pc} {e : Nat} {ws : List Str} {x y m : Str} (h : L.map (·.2) = ws ++ [x, y]) (hg : ∀ y ∈ ws, y ∈ goods) (hx : x ∈ goods) (hy : (y, m) ∈ bads) (hw : walkS s0 ws = some s) (rest : List Nat) :
    ∃ c, (cols 0 L ++ rest)[ws.length + 1]? = some c ∧ res b s0 L e = .er c m := by
  obtain ⟨L1, L2, rfl, h1, h2⟩ := List.map_eq_append_iff.mp h
  obtain ⟨p, M, rfl, h3, h4⟩ := List.map_eq_cons_iff.mp h2
  obtain ⟨q, N, rfl, h5, h6⟩ := List.map_eq_cons_iff.mp h4
  have hN : N = [] := List.map_eq_nil_iff.mp h6
  subst hN h1 h3 h5
  refine ⟨((L1 ++ [p]).flatMap pcs).length + q.1 + 1, ?_, ?_⟩
  · have e1 : L1 ++ [p, q] = (L1 ++ [p]) ++ [q] := by simp
    have e2 : (L1.map (·.2)).length + 1 = (L1 ++ [p]).length := by simp
    rw [e1, e2]
    exact cols_at
  · have e3 : ((L1 ++ [p]).flatMap pcs).length = (L1.flatMap pcs).length + p.1 + p.2.length := by
      rw [flat_snoc]
      simp only [List.length_append, List.length_replicate]
      rw [← len_tl, Nat.add_assoc]
    have q2 := resN_path (b := b) (e := e) (M := [p, q]) (n := 0) (mem_goods rfl hg) hw
    rw [res_N, q2, resN_strange hx hy, e3, Nat.zero_add]
theorem due_facts : ∀ s : Sta, s ≠ .z → dueW s ≠ [] ∧ (dueW s).length ≤ 20 ∧ (∀ x ∈ dueW s, x.length ≤ 20) ∧ decide (("the end" : Str) ∈ dueW s) = (step s .fin).isSome := by
  intro s hs
  cases s <;> first | exact absurd rfl hs | decide +kernel
theorem liv_z {kd : Str} {s : Sta} (h : Liv kd s) : s ≠ .z := by
  rcases h with ⟨_, rfl⟩ | ⟨_, _, h⟩
  · exact fun z => nomatch z
  · exact h
theorem liv_step {kd : Str} {s s' : Sta} {k : Kd} (h : Liv kd s) (hk : k ≠ .fin) (hs : step s k = some s') : Liv kd s' := by
  rcases h with ⟨h1, rfl⟩ | ⟨h1, h2, h3⟩
  · refine .inl ⟨h1, ?_⟩
    cases k <;> first | exact absurd rfl hk | (cases hs; done) | (cases hs; rfl)
  · refine .inr ⟨h1, ?_⟩
    cases s <;> cases k <;> first | exact absurd rfl hk | exact absurd rfl h2 | exact absurd rfl h3 | (cases hs; done) | (cases hs; decide)
end K6

set_option Elab.async false
set_option linter.all false
set_option maxRecDepth 100000
set_option maxHeartbeats 4000000
set_option autoImplicit false
namespace K6
open PySem PySem.Spec PyProof.Rows L2
open TL (tl len_tl ext_tl)
/-! ### is_right -/
/-- where the law stands -/
structure Std (H : Hp) (st sl t wd : Addr) (kd : Str) (ws : List Str) (s : Sta) : Prop where
  sa : StrAt H st sl
  ta : TabAt H t kd
  lv : Liv kd s
  kk : kd = "list" ∨ kd = "row"
  wl : H wd = some (.lst (ws.map V.str))
  ne : wd ≠ st
  ln : ws.length ≤ 20
  gd : ∀ x ∈ ws, x ∈ goods
  pa : walkS (first kd) ws = some s
theorem Std.same {H H' : Hp} {st sl t wd : Addr} {kd : Str} {ws : List Str} {s : Sta} (h : Std H st sl t wd kd ws s) (e : Same H H') : Std H' st sl t wd kd ws s := ⟨h.sa.same e, h.ta.same e, h.lv, h.kk, e _ _ h.wl, h.ne, h.ln, h.gd, h.pa⟩
theorem Std.draw {H H' : Hp} {st sl t wd : Addr} {kd : Str} {ws : List Str} {s : Sta} (h : Std H st sl t wd kd ws s) (e : But st H H') (sa : StrAt H' st sl) : Std H' st sl t wd kd ws s := ⟨sa, h.ta.but h.sa e, h.lv, h.kk, e _ _ h.ne h.wl, h.ne, h.ln, h.gd, h.pa⟩
theorem Std.pc {H : Hp} {st sl t wd : Addr} {kd : Str} {ws : List Str} {s : Sta} (h : Std H st sl t wd kd ws s) : ∀ x ∈ ws, PcOk (0, x) := fun x hx => .inl (h.gd x hx)
def spRight : Sp := fun vs H Q _ => ∃ (st sl t wd : Addr) (kd : Str) (ws : List Str) (s : Sta), vs = [.ref st, .ref t, .str kd, .ref wd, .str s.nm] ∧ Std H st sl t wd kd ws s ∧ ∀ H', But st H H' → StrAt H' st sl → Q (.bl true) H'
/-- lists of the same texts -/
theorem eq_strs {H : Hp} {p q : Addr} {os : List Str} (hp : H p = some (.lst (os.map V.str))) (hq : H q = some (.lst (os.map V.str))) (hl : os.length ≤ 1000) : EqD 1 H (.ref p) (.ref q) :=
  .inr ⟨p, q, _, _, rfl, rfl, .inl ⟨hp, hq⟩, rfl, by rw [List.length_map]; exact hl, fun i a b ha hb => by
    rw [ha] at hb
    cases hb
    obtain ⟨x, _, rfl, _⟩ := map_at ha
    exact .inr ⟨x, rfl, rfl⟩⟩
theorem eq_tell {H : Hp} {p q : Addr} {c : Int} {x : Str} {n : Nat} (hp : H p = some (.tup [.int c, .str x])) (hq : H q = some (.tup [.int c, .str x])) : EqD (n + 1) H (.ref p) (.ref q) :=
  .inr ⟨p, q, _, _, rfl, rfl, .inr ⟨hp, hq⟩, rfl, by show 2 ≤ 1000; decide, fun i a b ha hb => by
    rw [ha] at hb
    cases hb
    have hz : EqZ a a := by
      match i, ha with
      | 0, ha => cases ha; exact .inl ⟨_, rfl, rfl⟩
      | 1, ha => cases ha; exact .inr ⟨_, rfl, rfl⟩
      | i + 2, ha => simp at ha
    cases n with
    | zero => exact hz
    | succ n => exact .inl hz⟩
section
variable {P : Program} {w : World} {K : PySem.W.Frag} {mg : Str → Option Value} {base : Heap}
abbrev nRight : List Str := ["_law_stream_here", "_law_table_here", "_law_kind", "_law_words", "_law_state", "_law_text", "_law_places", "_law_due_here", "_law_which", "_law_told_here"]
theorem sc_right : FnScope nRight ["_law_stream_here", "_law_table_here", "_law_kind", "_law_words", "_law_state"] (defScope s_l_is_right) := ⟨rfl, rfl, rfl, by decide +kernel, rfl, by decide +kernel, by decide +kernel⟩
theorem ok_right (T : Tx K mg) : Df P w K mg base 9 "_law_is_right" ["_law_stream_here", "_law_table_here", "_law_kind", "_law_words", "_law_state"] spRight := by
  have DL : Df P w K mg base 2 "_law_laid" ["_law_stream_here", "_law_words"] spLaid := ok_laid T
  have DU : Df P w K mg base 2 "_law_due" ["_law_table_here", "_law_state"] spDue := ok_due T
  have DT : Df P w K mg base 8 "_law_told" ["_law_text", "_law_kind", "_law_which"] spTold := ok_told T
  have DE : Df P w K mg base 3 "_law_equal" ["_law_actual", "_law_due_here"] (spEq 1) := ok_equal T 1
  have DW : Df P w K mg base 1 "_law_listed" ["_law_words"] spJoined := ok_listed T
  refine df_mk T.g_l_is_right T.d_l_is_right sc_right (fun vs H Q E h => ?_) (fun _ _ _ _ _ _ us hl => match us, hl with | [_, _, _, _, _], _ => rfl) (fun cdv A outer s H vs Q E hr h => ?_)
  · obtain ⟨st, sl, t, wd, kd, ws, s, rfl, _⟩ := h
    rfl
  · obtain ⟨st, sl, t, wd, kd, ws, s, rfl, S, k⟩ := h
    have hr1 : Room 1 _ := hr.mono (by decide)
    have hr2 : Room 2 _ := hr.mono (by decide)
    have hr3 : Room 3 _ := hr.mono (by decide)
    refine ⟨_, pss_cons (ps_asg (pe_d DL hr2 takes0 (pa_cons (pv 0) (pa_cons (pv 3) pa_nil))) (pg_tup rfl (pgs_cons (pg_name (i := 5) sc_right.nd rfl (Or.inl rfl)) (pgs_cons (pg_name (i := 6) sc_right.nd rfl (Or.inl rfl)) pgs_nil))))
      (pss_cons (ps_set (i := 7) sc_right.nd rfl (Or.inl rfl) (pe_d DU hr2 takes0 (pa_cons (pv 1) (pa_cons (pv 4) pa_nil))))
      (pss_cons (ps_if (pt_not (pt_val (pe_d DE hr3 takes0 (pa_cons (pe_d DT hr takes0 (pa_cons (pv 5) (pa_cons (pv 2) (pa_cons pe_int pa_nil)))) (pa_cons (pv 7) pa_nil))))) pss_never pss_nil)
      (pss_cons (ps_for pwE rfl (pi_list (pe_lst (pa_cons pe_int (pa_cons pe_int pa_nil)))) (pg_name (i := 8) sc_right.nd rfl (Or.inl rfl))
        (pss_cons (ps_set (i := 9) sc_right.nd rfl (Or.inl rfl) (pe_d DT hr takes0 (pa_cons (pv 5) (pa_cons (pv 2) (pa_cons (pv 8) pa_nil)))))
        (pss_one (ps_if (pt_cmpR op_in_seq pe_str (pv 7) rfl)
          (pss_one (ps_if (PW.pt (pw_and (pt_not (pt_val (pe_isi (n := "list") T (pv 9) T.b_list (by decide +kernel)))) (pw_and1 (pt_cmpR op_eq (pe_slice sl_str (pe_ix ix_tup (pv 9) pe_int (fun _ _ => rfl)) po_none (po_some pe_int)) pe_str (nomark _))))) pss_never pss_nil))
          (pss_one (ps_if (pt_not (pt_val (pe_d DE hr3 takes0 (pa_cons (pv 9) (pa_cons (pe_tup (pa_cons (pe_ix ix_list (pv 6) (pe_un un_neg pe_int) (fun _ _ => rfl)) (pa_cons (pe_op op_add_str pe_str (pe_d DW hr1 takes0 (pa_cons (pv 7) pa_nil))) pa_nil))) pa_nil))))) pss_never pss_nil))))))
      (pss_one (ps_ret pe_bl))))), ?_⟩
    refine ⟨_, rfl, _, rfl, st, sl, wd, ws, rfl, S.sa, S.wl, S.ne, S.pc, by have := S.ln; omega, fun L e z r pl H1 hmap hL b1 sa1 hr1' hpl => ?_⟩
    have S1 := S.draw b1 sa1
    refine ⟨r, _, rfl, SqT.of hr1', rfl, _, _, rfl, _, _, rfl, rfl, ?_⟩
    refine ⟨_, rfl, _, rfl, t, kd, s, rfl, S1.ta, S1.lv, fun du H2 s2 hdu0 hdu => ?_⟩
    have S2 := S1.same s2
    have hpl2 := s2 _ _ hpl
    obtain ⟨df1, df2, df3, df4⟩ := due_facts s (liv_z S.lv)
    have rt := right_true (e := e) hL hmap S.gd S.pa
    have rf := right_false (e := e) hL hmap S.gd S.pa
    refine ⟨_, rfl, _, rfl, z, kd, L, e, 0, rfl, S.kk, hL, fun _ => ?_, fun h => absurd rfl h⟩
    rw [rt]
    intro q H3 s3 hq
    refine ⟨_, rfl, _, _, rfl, eq_strs hq (s3 _ _ hdu) (by omega), fun H4 s4 => ⟨_, rfl, iteF ?_⟩⟩
    have s24 := s3.trans s4
    have S4 := S2.same s24
    have b4 : But st H H4 := (b1.same s2).same s24
    have hdu4 := s24 _ _ hdu
    have hpl4 := s24 _ _ hpl2
    refine ⟨by show 2 ≤ sizeLine; decide, fun q2 hq2 => ⟨q2, rfl, ⟨_, SqL.of upd_same⟩, ?_⟩⟩
    have s5 : Same H4 (upd H4 q2 (.lst [.int 1, .int 2])) := same_new hq2
    have e5 : (upd H4 q2 (.lst [.int 1, .int 2])) q2 = some (.lst [.int 1, .int 2]) := upd_same
    generalize upd H4 q2 (.lst [.int 1, .int 2]) = H5 at s5 e5
    refine for_list (K := K) (a := q2) (xs := [.int 1, .int 2]) (fun i σ H' => ∃ v1 v2 : Option V, σ = [some (.ref st), some (.ref t), some (.str kd), some (.ref wd), some (.str s.nm), some (.str z), some (.ref pl), some (.ref du), v1, v2] ∧ Same H4 H' ∧ H' q2 = some (.lst [.int 1, .int 2])) ⟨none, none, rfl, s5, e5⟩ (fun i σ H' _ ⟨_, _, _, _, h⟩ => SqL.of h) ?_ ?_
    · rintro i x σ H6 hi ⟨v1, v2, rfl, s6, e6⟩
      obtain ⟨wh, rfl, hwh⟩ : ∃ wh : Int, x = .int wh ∧ wh ≠ 0 := by
        match i, hi with
        | 0, hi => cases hi; exact ⟨_, rfl, by decide⟩
        | 1, hi => cases hi; exact ⟨_, rfl, by decide⟩
        | i + 2, hi => simp at hi
      have done : ∀ (H7 : Hp) (v : V), Same H6 H7 → ∃ v1 v2 : Option V, [some (.ref st), some (.ref t), some (.str kd), some (.ref wd), some (.str s.nm), some (.str z), some (.ref pl), some (.ref du), some (.int wh), some v] = [some (.ref st), some (.ref t), some (.str kd), some (.ref wd), some (.str s.nm), some (.str z), some (.ref pl), some (.ref du), v1, v2] ∧ Same H4 H7 ∧ H7 q2 = some (.lst [.int 1, .int 2]) :=
        fun H7 v s7 => ⟨_, _, rfl, s6.trans s7, s7 _ _ e6⟩
      refine ⟨_, rfl, _, rfl, _, rfl, z, kd, L, e, wh, rfl, S.kk, hL, fun h => absurd h hwh, fun _ => ?_⟩
      rw [rf]
      cases hfin : step s .fin with
      | some s' =>
        rw [hfin] at df4
        refine ⟨fun q3 H7 s7 hq3 => ?_, fun c x hx q3 H7 s7 hq3 => ?_⟩
        · refine ⟨_, rfl, du, _, rfl, .inl (SqL.of (s7 _ _ (s6 _ _ hdu4))), rfl, by simp [flatV], _, rfl, ?_⟩
          rw [if_neg Bool.false_ne_true, inV_strs, df4]
          refine iteT ⟨_, rfl, _, _, _, _, true, rfl, .ty _, .base (.lst hq3), kit_ty (by decide +kernel), _, rfl, iteF (iteF ?_)⟩
          exact done H7 _ s7
        · refine ⟨_, rfl, du, _, rfl, .inl (SqL.of (s7 _ _ (s6 _ _ hdu4))), rfl, by simp [flatV], _, rfl, ?_⟩
          rw [if_neg Bool.false_ne_true, inV_strs, df4]
          refine iteT ⟨_, rfl, _, _, _, _, false, rfl, .ty _, .base (.tup hq3), kit_ty (by decide +kernel), _, rfl, iteT ?_⟩
          refine ⟨_, rfl, q3, _, (1 : Nat), _, rfl, rfl, SqT.of hq3, atI_nat rfl, _, rfl, x, rfl, Evl.sz_of (Nat.le_trans hx.1 (by decide)), rfl, _, rfl, ?_⟩
          rw [decide_eq_false (fun z => hx.2 (V.str.inj z))]
          exact iteF (done H7 _ s7)
      | none =>
        rw [hfin] at df4
        intro q3 H7 s7 hq3
        refine ⟨_, rfl, du, _, rfl, .inl (SqL.of (s7 _ _ (s6 _ _ hdu4))), rfl, by simp [flatV], _, rfl, ?_⟩
        rw [if_neg Bool.false_ne_true, inV_strs, df4]
        have hlast : atI (colV (cols 0 L ++ [z.length + 1])) (-1) = some (.int ((z.length + 1 : Nat) : Int)) := by
          unfold colV
          rw [List.map_append]
          exact atI_last _ _
        have e9 : ("expected " : Str).length = 9 := by decide +kernel
        have ejl := joinW_len df2 df3
        refine iteF ⟨_, rfl, _, rfl, 1, rfl, pl, _, _, _, rfl, rfl, SqL.of (s7 _ _ (s6 _ _ hpl4)), hlast, _, rfl, du, dueW s, rfl, s7 _ _ (s6 _ _ hdu4), df1, df2, df3, fun H8 s8 => ?_⟩
        refine ⟨_, _, rfl, rfl, Evl.sz_of (by omega), by show 2 ≤ sizeLine; decide, fun q4 hq4 => ?_⟩
        have s9 := s8.trans (same_new (o := .tup [.int ((z.length + 1 : Nat) : Int), .str ("expected " ++ joinW (dueW s))]) hq4)
        exact ⟨_, _, rfl, eq_tell (n := 0) (s9 _ _ hq3) upd_same, fun H9 s10 => ⟨_, rfl, iteF (done H9 _ ((s7.trans s9).trans s10))⟩⟩
    · rintro σ H6 ⟨v1, v2, rfl, s6, e6⟩
      exact k H6 (b4.same s6) (S4.sa.same s6)
end
end K6

set_option Elab.async false
set_option linter.all false
set_option maxRecDepth 100000
set_option maxHeartbeats 4000000
set_option autoImplicit false
namespace K6
open PySem PySem.Spec PyProof.Rows L2
open TL (tl len_tl ext_tl)
/-! ### goes_on -/
def spGoes : Sp := fun vs H Q _ => ∃ (st sl t wd : Addr) (kd : Str) (ws : List Str) (s : Sta), vs = [.ref st, .ref t, .str kd, .ref wd, .str s.nm] ∧ Std H st sl t wd kd ws s ∧ ∀ H', Q (.bl true) H'
theorem kinds_at {d : Nat} (h : d < 7) : ∃ k : Kd, k ≠ .fin ∧ kindsV[d]? = some (.str k.law) := by
  match d, h with
  | 0, _ => exact ⟨.num, by decide, rfl⟩
  | 1, _ => exact ⟨.iff, by decide, rfl⟩
  | 2, _ => exact ⟨.els, by decide, rfl⟩
  | 3, _ => exact ⟨.col, by decide, rfl⟩
  | 4, _ => exact ⟨.sem, by decide, rfl⟩
  | 5, _ => exact ⟨.sta, by decide, rfl⟩
  | 6, _ => exact ⟨.dot, by decide, rfl⟩
theorem eq_tells {H : Hp} {p q pr : Addr} {as : List Addr} {c : Int} {x : Str} (hp : H p = some (.lst (as.map V.ref))) (hq : H q = some (.lst (List.replicate as.length (.ref pr)))) (ha : ∀ a ∈ as, H a = some (.tup [.int c, .str x])) (hpr : H pr = some (.tup [.int c, .str x])) (hl : as.length ≤ 1000) : EqD 2 H (.ref p) (.ref q) :=
  .inr ⟨p, q, _, _, rfl, rfl, .inl ⟨hp, hq⟩, by rw [List.length_map, List.length_replicate], by rw [List.length_replicate]; exact hl, fun i a b h1 h2 => by
    obtain ⟨a', _, rfl, hm⟩ := map_at h1
    have hb := List.eq_of_mem_replicate (List.mem_of_getElem? h2)
    subst hb
    exact eq_tell (n := 0) (ha a' hm) hpr⟩
theorem col_at {L : List Nat} {i c : Nat} (h : L[i]? = some c) : atI (colV L) (i : Int) = some (.int (c : Int)) := by
  refine atI_nat ?_
  unfold colV
  rw [List.getElem?_map, h]
  rfl
/-- a laying of the words and some more: what laid asks -/
theorem Std.laid {H : Hp} {st sl t wd : Addr} {kd : Str} {ws r : List Str} {s : Sta} (S : Std H st sl t wd kd ws s) (hr : ∀ x ∈ r, PcOk (0, x)) : ∀ x ∈ ws ++ r, PcOk (0, x) := fun x hx => by
  rcases List.mem_append.mp hx with h | h
  · exact S.pc x h
  · exact hr x h
section
variable {P : Program} {w : World} {K : PySem.W.Frag} {mg : Str → Option Value} {base : Heap}
abbrev nGoes : List Str := ["_law_stream_here", "_law_table_here", "_law_kind", "_law_words", "_law_state", "_law_word", "_law_token_here", "_law_text", "_law_places", "_law_due_here", "_law_told_here", "_law_problem", "_law_strange"]
theorem sc_goes : FnScope nGoes ["_law_stream_here", "_law_table_here", "_law_kind", "_law_words", "_law_state"] (defScope s_l_goes_on) := ⟨rfl, rfl, rfl, by decide +kernel, rfl, by decide +kernel, by decide +kernel⟩
theorem ok_goes (T : Tx K mg) : Df P w K mg base 9 "_law_goes_on" ["_law_stream_here", "_law_table_here", "_law_kind", "_law_words", "_law_state"] spGoes := by
  have DK : Df P w K mg base 1 "_law_kinds" [] spKinds := ok_kinds T
  have DD : Df P w K mg base 1 "_law_next" ["_law_stream_here", "_law_many"] spDraw := ok_draw T
  have DO : Df P w K mg base 3 "_law_token" ["_law_stream_here", "_law_kind"] spTokL := ok_tokl T
  have DP : Df P w K mg base 2 "_law_pick" ["_law_stream_here", "_law_rows"] spPick := ok_pick T
  have DL : Df P w K mg base 2 "_law_laid" ["_law_stream_here", "_law_words"] spLaid := ok_laid T
  have DU : Df P w K mg base 2 "_law_due" ["_law_table_here", "_law_state"] spDue := ok_due T
  have DT : Df P w K mg base 8 "_law_told" ["_law_text", "_law_kind", "_law_which"] spTold := ok_told T
  have D1 : Df P w K mg base 3 "_law_equal" ["_law_actual", "_law_due_here"] (spEq 1) := ok_equal T 1
  have D2 : Df P w K mg base 4 "_law_equal" ["_law_actual", "_law_due_here"] (spEq 2) := ok_equal T 2
  have DW : Df P w K mg base 1 "_law_listed" ["_law_words"] spJoined := ok_listed T
  refine df_mk T.g_l_goes_on T.d_l_goes_on sc_goes (fun vs H Q E h => ?_) (fun _ _ _ _ _ _ us hl => match us, hl with | [_, _, _, _, _], _ => rfl) (fun cdv A outer s H vs Q E hr h => ?_)
  · obtain ⟨st, sl, t, wd, kd, ws, s, rfl, _⟩ := h
    rfl
  · obtain ⟨st, sl, t, wd, kd, ws, s, rfl, S, k⟩ := h
    have hr1 : Room 1 _ := hr.mono (by decide)
    have hr2 : Room 2 _ := hr.mono (by decide)
    have hr3 : Room 3 _ := hr.mono (by decide)
    have hr4 : Room 4 _ := hr.mono (by decide)
    have hu := hu_of hr
    refine ⟨_, pss_cons (ps_set (i := 5) sc_goes.nd rfl (Or.inl rfl) (pe_ix ix_list (pe_d0 DK hr1) (pe_d DD hr1 takes0 (pa_cons (pv 0) (pa_cons pe_int pa_nil))) (fun _ _ => rfl)))
      (pss_cons (ps_set (i := 6) sc_goes.nd rfl (Or.inl rfl) (pe_d DO hr3 takes0 (pa_cons (pv 0) (pa_cons (pv 5) pa_nil))))
      (pss_cons (ps_asg (pe_d DL hr2 takes0 (pa_cons (pv 0) (pa_cons (pe_op op_cat (pv 3) (pe_lst (pa_cons (pv 6) pa_nil))) pa_nil))) (pg_tup rfl (pgs_cons (pg_name (i := 7) sc_goes.nd rfl (Or.inl rfl)) (pgs_cons (pg_name (i := 8) sc_goes.nd rfl (Or.inl rfl)) pgs_nil))))
      (pss_cons (ps_set (i := 9) sc_goes.nd rfl (Or.inl rfl) (pe_d DU hr2 takes0 (pa_cons (pv 1) (pa_cons (pv 4) pa_nil))))
      (pss_cons (ps_set (i := 10) sc_goes.nd rfl (Or.inl rfl) (pe_d DT hr takes0 (pa_cons (pv 7) (pa_cons (pv 2) (pa_cons pe_int pa_nil)))))
      (pss_cons (ps_if (pt_cmp (pc_din hu (pv 5) (pe_dget hu (pv 1) (pv 4) (fun _ _ => rfl))) rfl)
          (pss_one (ps_ret (pe_d D1 hr3 takes0 (pa_cons (pv 10) (pa_cons (pe_d DU hr2 takes0 (pa_cons (pv 1) (pa_cons (pe_dget hu (pe_dget hu (pv 1) (pv 4) (fun _ _ => rfl)) (pv 5) (fun _ _ => rfl)) pa_nil))) pa_nil))))) pss_nil)
      (pss_cons (ps_set (i := 11) sc_goes.nd rfl (Or.inl rfl) (pe_tup (pa_cons (pe_ix ix_list (pv 8) (pe_lenQ T (pv 3)) (fun _ _ => rfl)) (pa_cons (pe_op op_add_str pe_str (pe_d DW hr1 takes0 (pa_cons (pv 9) pa_nil))) pa_nil))))
      (pss_cons (ps_if (pt_not (pt_val (pe_d D2 hr4 takes0 (pa_cons (pe_lst (pa_cons (pv 10) (pa_cons (pe_d DT hr takes0 (pa_cons (pv 7) (pa_cons (pv 2) (pa_cons pe_int pa_nil)))) (pa_cons (pe_d DT hr takes0 (pa_cons (pv 7) (pa_cons (pv 2) (pa_cons pe_int pa_nil)))) pa_nil))))
          (pa_cons (pe_op op_rep (pe_lst (pa_cons (pv 11) pa_nil)) pe_int) pa_nil))))) pss_never pss_nil)
      (pss_cons (ps_asg (pe_d DL hr2 takes0 (pa_cons (pv 0) (pa_cons (pe_op op_cat (pv 3) (pe_lst (pa_cons (pv 6) (pa_cons (pe_d DO hr3 takes0 (pa_cons (pv 0) (pa_cons (pe_ix ix_list (pe_d0 DK hr1) (pe_d DD hr1 takes0 (pa_cons (pv 0) (pa_cons pe_int pa_nil))) (fun _ _ => rfl)) pa_nil))) pa_nil)))) pa_nil)))
          (pg_tup rfl (pgs_cons (pg_name (i := 7) sc_goes.nd rfl (Or.inl rfl)) (pgs_cons (pg_name (i := 8) sc_goes.nd rfl (Or.inl rfl)) pgs_nil))))
      (pss_cons (ps_set (i := 11) sc_goes.nd rfl (Or.inl rfl) (pe_tup (pa_cons (pe_ix ix_list (pv 8) (pe_lenQ T (pv 3)) (fun _ _ => rfl)) (pa_cons (pe_op op_add_str pe_str (pe_d DW hr1 takes0 (pa_cons (pv 9) pa_nil))) pa_nil))))
      (pss_cons (ps_if (pt_not (pt_val (pe_d D2 hr4 takes0 (pa_cons (pe_lst (pa_cons (pe_d DT hr takes0 (pa_cons (pv 7) (pa_cons (pv 2) (pa_cons pe_int pa_nil)))) (pa_cons (pe_d DT hr takes0 (pa_cons (pv 7) (pa_cons (pv 2) (pa_cons pe_int pa_nil)))) pa_nil)))
          (pa_cons (pe_op op_rep (pe_lst (pa_cons (pv 11) pa_nil)) pe_int) pa_nil))))) pss_never pss_nil)
      (pss_cons (ps_asg (pe_d DP hr2 takes0 (pa_cons (pv 0) (pa_cons (pe_lst (pa_cons (pe_tup (pa_cons pe_str (pa_cons pe_str pa_nil))) (pa_cons (pe_tup (pa_cons pe_str (pa_cons pe_str pa_nil))) (pa_cons (pe_tup (pa_cons pe_str (pa_cons pe_str pa_nil))) pa_nil)))) pa_nil)))
          (pg_tup rfl (pgs_cons (pg_name (i := 12) sc_goes.nd rfl (Or.inl rfl)) (pgs_cons (pg_name (i := 10) sc_goes.nd rfl (Or.inl rfl)) pgs_nil))))
      (pss_cons (ps_asg (pe_d DL hr2 takes0 (pa_cons (pv 0) (pa_cons (pe_op op_cat (pv 3) (pe_lst (pa_cons (pv 6) (pa_cons (pv 12) pa_nil)))) pa_nil)))
          (pg_tup rfl (pgs_cons (pg_name (i := 7) sc_goes.nd rfl (Or.inl rfl)) (pgs_cons (pg_name (i := 8) sc_goes.nd rfl (Or.inl rfl)) pgs_nil))))
      (pss_one (ps_ret (pe_d D2 hr4 takes0 (pa_cons (pe_lst (pa_cons (pe_d DT hr takes0 (pa_cons (pv 7) (pa_cons (pv 2) (pa_cons pe_int pa_nil)))) (pa_cons (pe_d DT hr takes0 (pa_cons (pv 7) (pa_cons (pv 2) (pa_cons pe_int pa_nil)))) pa_nil)))
          (pa_cons (pe_op op_rep (pe_lst (pa_cons (pe_tup (pa_cons (pe_ix ix_list (pv 8) (pe_op op_add (pe_lenQ T (pv 3)) pe_int) (fun _ _ => rfl)) (pa_cons (pv 10) pa_nil))) pa_nil)) pe_int) pa_nil))))))))))))))))), ?_⟩
    have hσ : L2.start nGoes [.ref st, .ref t, .str kd, .ref wd, .str s.nm] = [some (.ref st), some (.ref t), some (.str kd), some (.ref wd), some (.str s.nm), none, none, none, none, none, none, none, none] := rfl
    rw [hσ]
    -- a kind, its token
    refine ⟨rfl, fun q1 hq1 => ?_⟩
    have S1 := S.same (same_new (o := .lst kindsV) hq1)
    have e1 : (upd H q1 (.lst kindsV)) q1 = some (.lst kindsV) := upd_same
    have n1 := (S.sa.apart hq1).1
    generalize upd H q1 (.lst kindsV) = H1 at S1 e1
    refine ⟨_, rfl, st, sl, 7, rfl, by decide, by decide, S1.sa, fun d H2 b2 sa2 d0 d1 => ?_⟩
    have S2 := S1.draw b2 sa2
    obtain ⟨dn, rfl⟩ := Int.eq_ofNat_of_zero_le d0
    obtain ⟨kn, hkn, hkat⟩ := kinds_at (d := dn) (by omega)
    refine ⟨q1, _, (dn : Nat), _, rfl, rfl, SqL.of (b2 _ _ n1 e1), atI_nat hkat, ?_⟩
    refine ⟨_, rfl, _, rfl, st, sl, kn, rfl, S2.sa, hkn, fun x H3 b3 sa3 hx => ?_⟩
    have S3 := S2.draw b3 sa3
    dsimp only [List.set]
    obtain ⟨hxg, hxk⟩ := wd_goods hx
    have hxpc : PcOk (0, x) := .inl hxg
    -- words + [token]
    refine ⟨_, rfl, _, rfl, _, rfl, by show 1 ≤ sizeLine; decide, fun q4 hq4 => ?_⟩
    have S4 := S3.same (same_new (o := .lst [.str x]) hq4)
    refine ⟨wd, q4, _, _, rfl, rfl, S4.wl, upd_same, ?_, fun q5 hq5 => ?_⟩
    · have := S.ln
      refine Evl.sz_of ?_
      rw [List.length_map]
      show ws.length + 1 ≤ _
      omega
    have S5 := S4.same (same_new (o := .lst (ws.map V.str ++ [.str x])) hq5)
    have e5 : (upd (upd H3 q4 (.lst [.str x])) q5 (.lst (ws.map V.str ++ [.str x]))) q5 = some (.lst ((ws ++ [x]).map V.str)) := by
      rw [upd_same, List.map_append]
      rfl
    have n5 := (S4.sa.apart hq5).1
    generalize upd (upd H3 q4 (.lst [.str x])) q5 (.lst (ws.map V.str ++ [.str x])) = H5 at S5 e5
    refine ⟨st, sl, q5, ws ++ [x], rfl, S5.sa, e5, n5, S5.laid (by simpa using hxpc), by have := S.ln; rw [List.length_append]; show ws.length + 1 ≤ _; omega, fun L e z r pl H6 hmap hL b6 sa6 hr6 hpl6 => ?_⟩
    have S6 := S5.draw b6 sa6
    refine ⟨r, _, rfl, SqT.of hr6, rfl, _, _, rfl, _, _, rfl, rfl, ?_⟩
    dsimp only [List.set]
    refine ⟨_, rfl, _, rfl, t, kd, s, rfl, S6.ta, S6.lv, fun du H7 s7 hdu0 hdu => ?_⟩
    have S7 := S6.same s7
    dsimp only [List.set]
    have hpl7 := s7 _ _ hpl6
    obtain ⟨df1, df2, df3, df4⟩ := due_facts s (liv_z S.lv)
    refine ⟨_, rfl, _, rfl, z, kd, L, e, 0, rfl, S.kk, hL, fun _ => ?_, fun h => absurd rfl h⟩
    -- does it go on
    have tst : ∀ (H8 : Hp) (σ : L2.St) (Q2 : Bool → Hp → Prop), Same H7 H8 → σ[5]? = some (some (.str kn.law)) → σ[1]? = some (some (.ref t)) → σ[4]? = some (some (.str s.nm)) → Q2 (step s kn).isSome H8 → tB (tDIn (tVar 5) (tDGet (tVar 1) (tVar 4))) σ H8 Q2 := by
      intro H8 σ Q2 s8 h5 h1 h4 hq
      obtain ⟨kvs, g1, g2⟩ := (S7.same s8).ta
      obtain ⟨d, g3, g4⟩ := g2 s S.lv
      have dg1 := DGet.k (k := Sum.inr s.nm) g1
      rw [g3] at dg1
      have dg2 := DGet.k (k := Sum.inr kn.law) g4
      refine ⟨_, h5, _, h1, _, h4, t, _, rfl, dg1, d, _, rfl, dg2, _, rfl, ?_⟩
      rw [inK_get, Option.isSome_map]
      exact hq
    cases hst : step s kn with
    | some s' =>
      have hs' : step s (kindOf x) = some s' := by rw [hxk]; exact hst
      have rt := right_true (e := e) hL hmap (fun y hy => by
        rcases List.mem_append.mp hy with h | h
        · exact S.gd y h
        · rw [List.mem_singleton.mp h]; exact hxg) (by rw [walkS_snoc S.pa]; exact hs')
      rw [rt]
      intro q8 H8 s8 hq8
      refine tst H8 _ _ s8 rfl rfl rfl ?_
      rw [hst]
      have S8 := S7.same s8
      have lv' := liv_step S.lv hkn hst
      obtain ⟨kvs, g1, g2⟩ := id S8.ta
      obtain ⟨d, g3, g4⟩ := g2 s S.lv
      have dg1 := DGet.k (k := Sum.inr s.nm) g1
      rw [g3] at dg1
      have dg2 := DGet.k (k := Sum.inr kn.law) g4
      rw [inK_get, hst] at dg2
      refine iteT ⟨_, rfl, _, rfl, _, rfl, _, rfl, t, _, rfl, dg1, _, rfl, d, _, rfl, dg2, ?_⟩
      refine ⟨t, kd, s', rfl, S8.ta, lv', fun du2 H9 s9 _ hdu2 => ?_⟩
      obtain ⟨_, df2', _, _⟩ := due_facts s' (liv_z lv')
      exact ⟨_, _, rfl, eq_strs (s9 _ _ hq8) hdu2 (by omega), fun H10 _ => k H10⟩
    | none =>
      have hs' : step s (kindOf x) = none := by rw [hxk]; exact hst
      obtain ⟨c, hc, hres0⟩ := on_bad (b := true) (e := e) (r := []) hmap S.gd hxg nofun S.pa hs' [z.length + 1]
      obtain ⟨c', hc', hres1⟩ := on_bad (b := false) (e := e) (r := []) hmap S.gd hxg nofun S.pa hs' [z.length + 1]
      rw [hc] at hc'
      cases hc'
      rw [hres0]
      intro q8 H8 s8 hq8
      refine tst H8 _ _ s8 rfl rfl rfl ?_
      rw [hst]
      have S8 := S7.same s8
      have e9 : ("expected " : Str).length = 9 := by decide +kernel
      have ejl := joinW_len df2 df3
      refine iteF ⟨_, rfl, _, rfl, wd, _, rfl, .inl (SqL.of S8.wl), pl, _, _, _, rfl, rfl, SqL.of (s8 _ _ hpl7), (by rw [List.length_map]; exact col_at hc), _, rfl, du, dueW s, rfl, s8 _ _ hdu, df1, df2, df3, fun H9 s9 => ?_⟩
      refine ⟨_, _, rfl, rfl, Evl.sz_of (by omega), by show 2 ≤ sizeLine; decide, fun pr hpr => ?_⟩
      have s89 := s9.trans (same_new (o := .tup [.int (c : Int), .str ("expected " ++ joinW (dueW s))]) hpr)
      have hpr9 : (upd H9 pr (.tup [.int (c : Int), .str ("expected " ++ joinW (dueW s))])) pr = some (.tup [.int (c : Int), .str (expd (dueW s))]) := upd_same
      generalize upd H9 pr (.tup [.int (c : Int), .str ("expected " ++ joinW (dueW s))]) = H10 at s89 hpr9
      have S10 := S8.same s89
      dsimp only [List.set]
      -- the three tellings
      refine ⟨_, rfl, _, rfl, _, rfl, z, kd, L, e, 1, rfl, S.kk, hL, fun h => absurd h (by decide), fun _ => ?_⟩
      rw [hres1]
      intro q11 H11 s11 hq11
      refine ⟨_, rfl, _, rfl, z, kd, L, e, 2, rfl, S.kk, hL, fun h => absurd h (by decide), fun _ => ?_⟩
      rw [hres1]
      intro q12 H12 s12 hq12
      refine ⟨by show 3 ≤ sizeLine; decide, fun ls hls => ?_⟩
      have t13 : Same H12 (upd H12 ls (.lst [.ref q8, .ref q11, .ref q12])) := same_new hls
      have e13 : (upd H12 ls (.lst [.ref q8, .ref q11, .ref q12])) ls = some (.lst ([q8, q11, q12].map V.ref)) := upd_same
      generalize upd H12 ls (.lst [.ref q8, .ref q11, .ref q12]) = H13 at t13 e13
      refine ⟨_, rfl, by show 1 ≤ sizeLine; decide, fun lp hlp => ⟨lp, 3, _, rfl, rfl, upd_same, by decide, by decide, by show 1 * 3 ≤ sizeLine; decide, fun lr hlr => ?_⟩⟩
      have t15 : Same H13 (upd (upd H13 lp (.lst [.ref pr])) lr (.lst (List.replicate (3 : Int).toNat [V.ref pr]).flatten)) := (same_new hlp).trans (same_new hlr)
      have e15 : (upd (upd H13 lp (.lst [.ref pr])) lr (.lst (List.replicate (3 : Int).toNat [V.ref pr]).flatten)) lr = some (.lst (List.replicate [q8, q11, q12].length (.ref pr))) := upd_same
      generalize upd (upd H13 lp (.lst [.ref pr])) lr (.lst (List.replicate (3 : Int).toNat [V.ref pr]).flatten) = H15 at t15 e15
      have u12 : Same H12 H15 := t13.trans t15
      have u11 := s12.trans u12
      have u10 := s11.trans u11
      have u8 := s89.trans u10
      refine ⟨_, _, rfl, eq_tells (as := [q8, q11, q12]) (c := (c : Int)) (x := expd (dueW s)) (t15 _ _ e13) e15 ?_ (u10 _ _ hpr9) (by show 3 ≤ 1000; decide), fun H16 s16 => ⟨_, rfl, iteF ?_⟩⟩
      · intro a ha
        simp only [List.mem_cons, List.not_mem_nil, or_false] at ha
        rcases ha with rfl | rfl | rfl
        · exact u8 _ _ hq8
        · exact u11 _ _ hq11
        · exact u12 _ _ hq12
      have S16 := (S10.same u10).same s16
      have hdu16 := (s8.trans (u8.trans s16)) _ _ hdu
      clear u12 u11 u10 u8 t13 e13 t15 e15 hls hlp hlr hq8 hq11 hq12 hpr9
      -- one more token
      refine ⟨_, rfl, _, rfl, _, rfl, _, rfl, rfl, fun q17 hq17 => ?_⟩
      have S17 := S16.same (same_new (o := .lst kindsV) hq17)
      have hdu17 := same_new (o := .lst kindsV) hq17 _ _ hdu16
      have e17 : (upd H16 q17 (.lst kindsV)) q17 = some (.lst kindsV) := upd_same
      have n17 := (S16.sa.apart hq17).1
      have ndu : du ≠ st := by
        intro z
        obtain ⟨a, k0, ns, h1, _⟩ := S6.sa
        rw [z, h1] at hdu0
        cases hdu0
      generalize upd H16 q17 (.lst kindsV) = H17 at S17 e17 hdu17
      refine ⟨_, rfl, st, sl, 7, rfl, by decide, by decide, S17.sa, fun d2 H18 b18 sa18 d20 d21 => ?_⟩
      have S18 := S17.draw b18 sa18
      have hdu18 := b18 _ _ ndu hdu17
      obtain ⟨dm, rfl⟩ := Int.eq_ofNat_of_zero_le d20
      obtain ⟨km, hkm, hkat2⟩ := kinds_at (d := dm) (by omega)
      refine ⟨q17, _, (dm : Nat), _, rfl, rfl, SqL.of (b18 _ _ n17 e17), atI_nat hkat2, ?_⟩
      refine ⟨st, sl, km, rfl, S18.sa, hkm, fun y H19 b19 sa19 hy => ?_⟩
      have S19 := S18.draw b19 sa19
      have hdu19 := b19 _ _ ndu hdu18
      obtain ⟨hyg, hyk⟩ := wd_goods hy
      refine ⟨by show 2 ≤ sizeLine; decide, fun q20 hq20 => ?_⟩
      have S20 := S19.same (same_new (o := .lst [.str x, .str y]) hq20)
      refine ⟨wd, q20, _, _, rfl, rfl, S20.wl, upd_same, ?_, fun q21 hq21 => ?_⟩
      · have := S.ln
        refine Evl.sz_of ?_
        rw [List.length_map]
        show ws.length + 2 ≤ _
        omega
      have S21 := S20.same (same_new (o := .lst (ws.map V.str ++ [.str x, .str y])) hq21)
      have hdu21 := same_new (o := .lst (ws.map V.str ++ [.str x, .str y])) hq21 _ _ (same_new (o := .lst [.str x, .str y]) hq20 _ _ hdu19)
      have e21 : (upd (upd H19 q20 (.lst [.str x, .str y])) q21 (.lst (ws.map V.str ++ [.str x, .str y]))) q21 = some (.lst ((ws ++ [x, y]).map V.str)) := by
        rw [upd_same, List.map_append]
        rfl
      have n21 := (S20.sa.apart hq21).1
      generalize upd (upd H19 q20 (.lst [.str x, .str y])) q21 (.lst (ws.map V.str ++ [.str x, .str y])) = H21 at S21 e21 hdu21
      have hypc : PcOk (0, y) := .inl hyg
      refine ⟨st, sl, q21, ws ++ [x, y], rfl, S21.sa, e21, n21, S21.laid (by simpa using ⟨hxpc, hypc⟩), by have := S.ln; rw [List.length_append]; show ws.length + 2 ≤ _; omega, fun L2 e2 z2 r2 pl2 H22 hmap2 hL2 b22 sa22 hr22 hpl22 => ?_⟩
      have S22 := S21.draw b22 sa22
      have hdu22 := b22 _ _ ndu hdu21
      refine ⟨r2, _, rfl, SqT.of hr22, rfl, _, _, rfl, _, _, rfl, rfl, ?_⟩
      dsimp only [List.set]
      obtain ⟨c2, hc2, hres20⟩ := on_bad (b := true) (e := e2) (r := [y]) hmap2 S.gd hxg (by simpa using hyg) S.pa hs' [z2.length + 1]
      obtain ⟨c2', hc2', hres21⟩ := on_bad (b := false) (e := e2) (r := [y]) hmap2 S.gd hxg (by simpa using hyg) S.pa hs' [z2.length + 1]
      rw [hc2] at hc2'
      cases hc2'
      refine ⟨_, rfl, _, rfl, wd, _, rfl, .inl (SqL.of S22.wl), pl2, _, _, _, rfl, rfl, SqL.of hpl22, (by rw [List.length_map]; exact col_at hc2), _, rfl, du, dueW s, rfl, hdu22, df1, df2, df3, fun H23 s23 => ?_⟩
      refine ⟨_, _, rfl, rfl, Evl.sz_of (by omega), by show 2 ≤ sizeLine; decide, fun pr2 hpr2 => ?_⟩
      have s24 := s23.trans (same_new (o := .tup [.int (c2 : Int), .str ("expected " ++ joinW (dueW s))]) hpr2)
      have e24 : (upd H23 pr2 (.tup [.int (c2 : Int), .str ("expected " ++ joinW (dueW s))])) pr2 = some (.tup [.int (c2 : Int), .str (expd (dueW s))]) := upd_same
      generalize upd H23 pr2 (.tup [.int (c2 : Int), .str ("expected " ++ joinW (dueW s))]) = H24 at s24 e24
      have S24 := S22.same s24
      dsimp only [List.set]
      refine ⟨_, rfl, _, rfl, z2, kd, L2, e2, 0, rfl, S.kk, hL2, fun _ => ?_, fun h => absurd rfl h⟩
      rw [hres20]
      intro q25 H25 s25 hq25
      refine ⟨_, rfl, _, rfl, z2, kd, L2, e2, 1, rfl, S.kk, hL2, fun h => absurd h (by decide), fun _ => ?_⟩
      rw [hres21]
      intro q26 H26 s26 hq26
      refine ⟨by show 2 ≤ sizeLine; decide, fun ls hls => ?_⟩
      have t27 : Same H26 (upd H26 ls (.lst [.ref q25, .ref q26])) := same_new hls
      have e27 : (upd H26 ls (.lst [.ref q25, .ref q26])) ls = some (.lst ([q25, q26].map V.ref)) := upd_same
      generalize upd H26 ls (.lst [.ref q25, .ref q26]) = H27 at t27 e27
      refine ⟨_, rfl, by show 1 ≤ sizeLine; decide, fun lp hlp => ⟨lp, 2, _, rfl, rfl, upd_same, by decide, by decide, by show 1 * 2 ≤ sizeLine; decide, fun lr hlr => ?_⟩⟩
      have t28 : Same H27 (upd (upd H27 lp (.lst [.ref pr2])) lr (.lst (List.replicate (2 : Int).toNat [V.ref pr2]).flatten)) := (same_new hlp).trans (same_new hlr)
      have e28 : (upd (upd H27 lp (.lst [.ref pr2])) lr (.lst (List.replicate (2 : Int).toNat [V.ref pr2]).flatten)) lr = some (.lst (List.replicate [q25, q26].length (.ref pr2))) := upd_same
      generalize upd (upd H27 lp (.lst [.ref pr2])) lr (.lst (List.replicate (2 : Int).toNat [V.ref pr2]).flatten) = H28 at t28 e28
      have u26 : Same H26 H28 := t27.trans t28
      have u25 := s26.trans u26
      have u24 := s25.trans u25
      refine ⟨_, _, rfl, eq_tells (as := [q25, q26]) (c := (c2 : Int)) (x := expd (dueW s)) (t28 _ _ e27) e28 ?_ (u24 _ _ e24) (by show 2 ≤ 1000; decide), fun H29 s29 => ⟨_, rfl, iteF ?_⟩⟩
      · intro a ha
        simp only [List.mem_cons, List.not_mem_nil, or_false] at ha
        rcases ha with rfl | rfl
        · exact u25 _ _ hq25
        · exact u26 _ _ hq26
      have S29 := (S24.same u24).same s29
      clear u26 u25 u24 t27 e27 t28 e28 hls hlp hlr hq25 hq26 e24
      -- a strange one
      refine ⟨_, rfl, by show 2 ≤ sizeLine; decide, fun t1 ht1 => ⟨by show 2 ≤ sizeLine; decide, fun t2 ht2 => ⟨by show 2 ≤ sizeLine; decide, fun t3 ht3 => ⟨by show 3 ≤ sizeLine; decide, fun lr hlr => ?_⟩⟩⟩⟩
      have v1 : Same H29 (upd H29 t1 (.tup [.str "A", .str "no token begins here"])) := same_new ht1
      have f1 : (upd H29 t1 (.tup [.str "A", .str "no token begins here"])) t1 = some (.tup [.str "A", .str "no token begins here"]) := upd_same
      generalize upd H29 t1 (.tup [.str "A", .str "no token begins here"]) = G1 at v1 f1 ht2 ht3 hlr ⊢
      have v2 : Same G1 (upd G1 t2 (.tup [.str "1234567", .str "a number has at most 6 digits"])) := same_new ht2
      have f2 : (upd G1 t2 (.tup [.str "1234567", .str "a number has at most 6 digits"])) t2 = some (.tup [.str "1234567", .str "a number has at most 6 digits"]) := upd_same
      generalize upd G1 t2 (.tup [.str "1234567", .str "a number has at most 6 digits"]) = G2 at v2 f2 ht3 hlr ⊢
      have v3 : Same G2 (upd G2 t3 (.tup [.str "elses", .str "there is no such word"])) := same_new ht3
      have f3 : (upd G2 t3 (.tup [.str "elses", .str "there is no such word"])) t3 = some (.tup [.str "elses", .str "there is no such word"]) := upd_same
      generalize upd G2 t3 (.tup [.str "elses", .str "there is no such word"]) = G3 at v3 f3 hlr ⊢
      have v4 : Same G3 (upd G3 lr (.lst [.ref t1, .ref t2, .ref t3])) := same_new hlr
      have f4 : (upd G3 lr (.lst [.ref t1, .ref t2, .ref t3])) lr = some (.lst [.ref t1, .ref t2, .ref t3]) := upd_same
      generalize upd G3 lr (.lst [.ref t1, .ref t2, .ref t3]) = G4 at v4 f4 ⊢
      have v := (v1.trans v2).trans (v3.trans v4)
      have S30 := S29.same v
      have g1 := v4 _ _ (v3 _ _ (v2 _ _ f1))
      have g2 := v4 _ _ (v3 _ _ f2)
      have g3 := v4 _ _ f3
      have nlr : lr ≠ st := ((S29.same ((v1.trans v2).trans v3)).sa.apart hlr).1
      refine ⟨st, sl, lr, _, rfl, S30.sa, f4, nlr, by show 0 < 3; decide, by show 3 ≤ 1000; decide, fun i xb H31 b31 sa31 hxb => ?_⟩
      have S31 := S30.draw b31 sa31
      obtain ⟨a0, k0, ns0, hst0, _⟩ := id S30.sa
      obtain ⟨tb, bd, m, rfl, htb, hbad⟩ : ∃ (tb : Addr) (bd m : Str), xb = .ref tb ∧ H31 tb = some (.tup [.str bd, .str m]) ∧ (bd, m) ∈ bads := by
        have hm := List.mem_of_getElem? hxb
        simp only [List.mem_cons, List.not_mem_nil, or_false] at hm
        rcases hm with rfl | rfl | rfl
        · exact ⟨t1, _, _, rfl, b31 _ _ (ne_of g1 hst0 (fun z => nomatch z)) g1, by decide +kernel⟩
        · exact ⟨t2, _, _, rfl, b31 _ _ (ne_of g2 hst0 (fun z => nomatch z)) g2, by decide +kernel⟩
        · exact ⟨t3, _, _, rfl, b31 _ _ (ne_of g3 hst0 (fun z => nomatch z)) g3, by decide +kernel⟩
      refine ⟨tb, _, rfl, SqT.of htb, rfl, _, _, rfl, _, _, rfl, rfl, ?_⟩
      dsimp only [List.set]
      refine ⟨_, rfl, _, rfl, _, rfl, _, rfl, by show 2 ≤ sizeLine; decide, fun q32 hq32 => ?_⟩
      have S32 := S31.same (same_new (o := .lst [.str x, .str bd]) hq32)
      refine ⟨wd, q32, _, _, rfl, rfl, S32.wl, upd_same, ?_, fun q33 hq33 => ?_⟩
      · have := S.ln
        refine Evl.sz_of ?_
        rw [List.length_map]
        show ws.length + 2 ≤ _
        omega
      have S33 := S32.same (same_new (o := .lst (ws.map V.str ++ [.str x, .str bd])) hq33)
      have e33 : (upd (upd H31 q32 (.lst [.str x, .str bd])) q33 (.lst (ws.map V.str ++ [.str x, .str bd]))) q33 = some (.lst ((ws ++ [x, bd]).map V.str)) := by
        rw [upd_same, List.map_append]
        rfl
      have n33 := (S32.sa.apart hq33).1
      generalize upd (upd H31 q32 (.lst [.str x, .str bd])) q33 (.lst (ws.map V.str ++ [.str x, .str bd])) = H33 at S33 e33
      have hbpc : PcOk (0, bd) := .inr ⟨m, hbad⟩
      refine ⟨st, sl, q33, ws ++ [x, bd], rfl, S33.sa, e33, n33, S33.laid (by simpa using ⟨hxpc, hbpc⟩), by have := S.ln; rw [List.length_append]; show ws.length + 2 ≤ _; omega, fun L3 e3 z3 r3 pl3 H34 hmap3 hL3 b34 sa34 hr34 hpl34 => ?_⟩
      have S34 := S33.draw b34 sa34
      refine ⟨r3, _, rfl, SqT.of hr34, rfl, _, _, rfl, _, _, rfl, rfl, ?_⟩
      dsimp only [List.set]
      obtain ⟨c3, hc3, hres30⟩ := on_strange (b := true) (e := e3) hmap3 S.gd hxg hbad S.pa [z3.length + 1]
      obtain ⟨c3', hc3', hres31⟩ := on_strange (b := false) (e := e3) hmap3 S.gd hxg hbad S.pa [z3.length + 1]
      rw [hc3] at hc3'
      cases hc3'
      refine ⟨_, rfl, _, rfl, z3, kd, L3, e3, 0, rfl, S.kk, hL3, fun _ => ?_, fun h => absurd rfl h⟩
      rw [hres30]
      intro q35 H35 s35 hq35
      refine ⟨_, rfl, _, rfl, z3, kd, L3, e3, 1, rfl, S.kk, hL3, fun h => absurd h (by decide), fun _ => ?_⟩
      rw [hres31]
      intro q36 H36 s36 hq36
      refine ⟨by show 2 ≤ sizeLine; decide, fun ls hls => ?_⟩
      have t37 : Same H36 (upd H36 ls (.lst [.ref q35, .ref q36])) := same_new hls
      have e37 : (upd H36 ls (.lst [.ref q35, .ref q36])) ls = some (.lst ([q35, q36].map V.ref)) := upd_same
      generalize upd H36 ls (.lst [.ref q35, .ref q36]) = H37 at t37 e37
      have w37 := (s35.trans s36).trans t37
      have hpl37 := w37 _ _ hpl34
      have hwl37 := w37 _ _ S34.wl
      refine ⟨_, rfl, _, rfl, wd, _, rfl, .inl (SqL.of hwl37), _, _, rfl, rfl, pl3, _, ((ws.length + 1 : Nat) : Int), _, rfl, congrArg V.int (by rw [List.length_map]; rfl), SqL.of hpl37, col_at hc3, _, rfl, by show 2 ≤ sizeLine; decide, fun pr3 hpr3 => ⟨by show 1 ≤ sizeLine; decide, fun lp hlp => ?_⟩⟩
      refine ⟨lp, 2, _, rfl, rfl, upd_same, by decide, by decide, by show 1 * 2 ≤ sizeLine; decide, fun lr2 hlr2 => ?_⟩
      have t38 : Same H37 (upd H37 pr3 (.tup [.int (c3 : Int), .str m])) := same_new hpr3
      have e38 : (upd H37 pr3 (.tup [.int (c3 : Int), .str m])) pr3 = some (.tup [.int (c3 : Int), .str m]) := upd_same
      generalize upd H37 pr3 (.tup [.int (c3 : Int), .str m]) = H38 at t38 e38 hlp hlr2
      have t39 : Same H38 (upd (upd H38 lp (.lst [.ref pr3])) lr2 (.lst (List.replicate (2 : Int).toNat [V.ref pr3]).flatten)) := (same_new hlp).trans (same_new hlr2)
      have e39 : (upd (upd H38 lp (.lst [.ref pr3])) lr2 (.lst (List.replicate (2 : Int).toNat [V.ref pr3]).flatten)) lr2 = some (.lst (List.replicate [q35, q36].length (.ref pr3))) := upd_same
      generalize upd (upd H38 lp (.lst [.ref pr3])) lr2 (.lst (List.replicate (2 : Int).toNat [V.ref pr3]).flatten) = H39 at t39 e39
      have u37 : Same H37 H39 := t38.trans t39
      have u36 := t37.trans u37
      have u35 := s36.trans u36
      refine ⟨_, _, rfl, eq_tells (as := [q35, q36]) (c := (c3 : Int)) (x := m) (u37 _ _ e37) e39 ?_ (t39 _ _ e38) (by show 2 ≤ 1000; decide), fun H40 _ => k H40⟩
      intro a ha
      simp only [List.mem_cons, List.not_mem_nil, or_false] at ha
      rcases ha with rfl | rfl
      · exact u35 _ _ hq35
      · exact u36 _ _ hq36
end
end K6

set_option Elab.async false
set_option linter.all false
set_option maxRecDepth 100000
set_option maxHeartbeats 4000000
set_option autoImplicit false
namespace K6
open PySem PySem.Spec PyProof.Rows L2
open TL (tl len_tl ext_tl)
/-! ### law -/
def spLaw (K : PySem.W.Frag) : Sp := fun vs H Q _ => ∃ (a : Addr) (ns : List Int), vs = [.ref a] ∧ SqL K H a (ns.map V.int) ∧ ∀ H', Q (.bl true) H'
def optK (s : Sta) : List Kd := kds.filter fun k => (step s k).isSome && decide (k ≠ .fin)
theorem TabAt.mut {H : Hp} {t p : Addr} {kd : Str} {o : HO} {xs : List V} (h : TabAt H t kd) (hp : H p = some (.lst xs)) : TabAt (upd H p o) t kd := by
  obtain ⟨kvs, h1, h2⟩ := h
  refine ⟨kvs, by rw [upd_ne (ne_of h1 hp (fun z => nomatch z))]; exact h1, fun s hs => ?_⟩
  obtain ⟨d, a, b⟩ := h2 s hs
  exact ⟨d, a, by rw [upd_ne (ne_of b hp (fun z => nomatch z))]; exact b⟩
theorem first_nm (kd : Str) : (first kd).nm = "" := by
  unfold first
  split <;> rfl
theorem first_liv {kd : Str} (h : kd = "list" ∨ kd = "row") : Liv kd (first kd) := by
  rcases h with rfl | rfl
  · exact .inr ⟨rfl, by decide +kernel⟩
  · exact .inl ⟨rfl, by decide +kernel⟩
theorem law_end : ∀ k ∈ kds, decide (V.str k.law = V.str "end") = decide (k = .fin) := by decide +kernel
section
variable {P : Program} {w : World} {K : PySem.W.Frag} {mg : Str → Option Value} {base : Heap}
abbrev nLaw : List Str := ["_law_script", "_law_stream_here", "_law_kind", "_law_table_here", "_law_state", "_law_words", "_law_turn", "_law_one", "_law_options", "_law_word"]
theorem sc_law : FnScope nLaw ["_law_script"] (defScope s_law) := ⟨rfl, rfl, rfl, by decide +kernel, rfl, by decide +kernel, by decide +kernel⟩
theorem ok_law (T : Tx K mg) {fd : FuncData} (F : FnP K "law" "law" s_law (He.ga K "law") fd) : FnOk P w K mg base CX0 10 (He.ga K "law") fd ["_law_script"] (spLaw K) := by
  have DK : Df P w K mg base 1 "_law_kinds" [] spKinds := ok_kinds T
  have DD : Df P w K mg base 1 "_law_next" ["_law_stream_here", "_law_many"] spDraw := ok_draw T
  have DS : Df P w K mg base 1 "_law_stream" ["_law_script"] (spStream K) := ok_stream T
  have DO : Df P w K mg base 3 "_law_token" ["_law_stream_here", "_law_kind"] spTokL := ok_tokl T
  have DP : Df P w K mg base 2 "_law_pick" ["_law_stream_here", "_law_rows"] spPick := ok_pick T
  have DB : Df P w K mg base 1 "_law_table" ["_law_kind"] spTable := ok_table T
  have DR : Df P w K mg base 9 "_law_is_right" ["_law_stream_here", "_law_table_here", "_law_kind", "_law_words", "_law_state"] spRight := ok_right T
  have DG : Df P w K mg base 9 "_law_goes_on" ["_law_stream_here", "_law_table_here", "_law_kind", "_law_words", "_law_state"] spGoes := ok_goes T
  refine F.ok sc_law (fun vs H Q E h => ?_) (fun cdv A outer s H vs Q E hr h => ?_)
  · obtain ⟨a, ns, rfl, _⟩ := h
    rfl
  · obtain ⟨a, ns, rfl, ha, k⟩ := h
    have hr1 : Room 1 _ := hr.mono (by decide)
    have hr2 : Room 2 _ := hr.mono (by decide)
    have hr3 : Room 3 _ := hr.mono (by decide)
    have hu := hu_of hr
    refine ⟨_, PSs.nox (pss_cons (ps_set (i := 1) sc_law.nd rfl (Or.inl rfl) (pe_d DS hr1 takes0 (pa_cons (pv 0) pa_nil)))
      (pss_cons (ps_set (i := 2) sc_law.nd rfl (Or.inl rfl) (pe_d DP hr2 takes0 (pa_cons (pv 1) (pa_cons (pe_lst (pa_cons pe_str (pa_cons pe_str (pa_cons pe_str pa_nil)))) pa_nil))))
      (pss_cons (ps_set (i := 3) sc_law.nd rfl (Or.inr rfl) (pe_d DB hr1 takes0 (pa_cons (pv 2) pa_nil)))
      (pss_cons (ps_set (i := 4) sc_law.nd rfl (Or.inr rfl) pe_str)
      (pss_cons (ps_set (i := 5) sc_law.nd rfl (Or.inl rfl) (pe_lst pa_nil))
      (pss_cons (ps_for PassesOwn.never rfl (pi_range1 rfl T.b_range (pa_cons (pe_d DD hr1 takes0 (pa_cons (pv 1) (pa_cons pe_int pa_nil))) pa_nil)) (pg_name (i := 6) sc_law.nd rfl (Or.inl rfl))
        (pss_cons (ps_if (pt_not (pt_val (pe_d DR hr takes0 (pa_cons (pv 1) (pa_cons (pv 3) (pa_cons (pv 2) (pa_cons (pv 5) (pa_cons (pv 4) pa_nil)))))))) pss_never pss_nil)
        (pss_cons (ps_setLc (i := 8) (own := [("_law_one", 7)]) (g := gName 7) (tt := tAnd (tB (tDIn (tVar 7) (tDGet (tVar 3) (tVar 4)))) (tTest (tOp rNe (tVar 7) (tC (.str "end"))))) rfl sc_law.nd rfl rfl rfl (pi_list (pe_d0 DK hr1)) (blkOk_by (N := nLaw) (sc := defScope s_law) (by decide +kernel))
          (fun _ _ _ _ _ => pg_name (i := 7) sc_law.nd rfl (Or.inl rfl)) (fun _ _ _ _ _ => pts_one (PW.pt (pw_and (pt_cmp (pc_din hu (pv 7) (pe_dget hu (pv 3) (pv 4) (fun _ _ => rfl))) rfl) (pw_and1 (pt_cmpR op_ne (pv 7) pe_str (nomark _))))))
          (fun _ _ _ _ _ => pv 7))
        (pss_one (ps_if (pt_truth (pv 8) (by intro _; rfl))
          (pss_cons (ps_set (i := 9) sc_law.nd rfl (Or.inl rfl) (pe_d DP hr2 takes0 (pa_cons (pv 1) (pa_cons (pv 8) pa_nil))))
          (pss_cons (ps_expr (pe_app (pv 5) (pe_d DO hr3 takes0 (pa_cons (pv 1) (pa_cons (pv 9) pa_nil)))))
          (pss_one (ps_set (i := 4) sc_law.nd rfl (Or.inr rfl) (pe_dget hu (pe_dget hu (pv 3) (pv 4) (fun _ _ => rfl)) (pv 9) (fun _ _ => rfl)))))) pss_nil)))))
      (pss_one (ps_ret (pe_and (pe_d DR hr takes0 (pa_cons (pv 1) (pa_cons (pv 3) (pa_cons (pv 2) (pa_cons (pv 5) (pa_cons (pv 4) pa_nil)))))) (pe_one (pe_d DG hr takes0 (pa_cons (pv 1) (pa_cons (pv 3) (pa_cons (pv 2) (pa_cons (pv 5) (pa_cons (pv 4) pa_nil)))))))))))))))), ?_⟩
    refine ⟨_, rfl, a, ns, rfl, ha, fun st sl H1 s1 sa1 hst0 hsl0 => ?_⟩
    refine ⟨_, rfl, by show 3 ≤ sizeLine; decide, fun q2 hq2 => ?_⟩
    have sa2 := sa1.same (same_new (o := .lst [.str "list", .str "list", .str "row"]) hq2)
    refine ⟨st, sl, q2, _, rfl, sa2, upd_same, (sa1.apart hq2).1, by show 0 < 3; decide, by show 3 ≤ 1000; decide, fun i x H3 b3 sa3 hx => ?_⟩
    obtain ⟨kd, rfl, hkd⟩ : ∃ kd : Str, x = .str kd ∧ (kd = "list" ∨ kd = "row") := by
      have hm := List.mem_of_getElem? hx
      simp only [List.mem_cons, List.not_mem_nil, or_false] at hm
      rcases hm with rfl | rfl | rfl
      · exact ⟨_, rfl, .inl rfl⟩
      · exact ⟨_, rfl, .inl rfl⟩
      · exact ⟨_, rfl, .inr rfl⟩
    refine ⟨_, rfl, kd, rfl, hkd, fun t H4 s4 ht4 => ?_⟩
    refine ⟨by show 0 ≤ sizeLine; decide, fun wd hwd => ?_⟩
    have sa4 := sa3.same s4
    obtain ⟨nws, nwl⟩ := sa4.apart hwd
    have S5 : Std (upd H4 wd (.lst [])) st sl t wd kd [] (first kd) := ⟨sa4.same (same_new hwd), ht4.same (same_new hwd), first_liv hkd, hkd, upd_same, nws, by decide, nofun, rfl⟩
    generalize upd H4 wd (.lst []) = H5 at S5
    refine ⟨_, rfl, st, sl, 21, rfl, by decide, by decide, S5.sa, fun d H6 b6 sa6 d0 d1 => ⟨d, rfl, by omega, by omega, ?_⟩⟩
    have S6 := S5.draw b6 sa6
    obtain ⟨dn, rfl⟩ := Int.eq_ofNat_of_zero_le d0
    refine for_range (lo := 0) (n := dn) (fun i σ H' => ∃ (ws : List Str) (s : Sta) (v6 v7 v8 v9 : Option V), σ = [some (.ref a), some (.ref st), some (.str kd), some (.ref t), some (.str s.nm), some (.ref wd), v6, v7, v8, v9] ∧ Std H' st sl t wd kd ws s ∧ ws.length ≤ i)
      ⟨[], first kd, none, none, none, none, ?_, S6, Nat.le_refl _⟩ ?_ ?_
    · rw [first_nm]
      rfl
    · rintro i σ H7 hi ⟨ws, s, v6, v7, v8, v9, rfl, S, hwi⟩
      refine ⟨_, rfl, _, rfl, _, rfl, _, rfl, _, rfl, st, sl, t, wd, kd, ws, s, rfl, S, fun H8 b8 sa8 => ⟨_, rfl, iteF ?_⟩⟩
      have S8 := S.draw b8 sa8
      refine ⟨rfl, fun q hq => ⟨q, rfl, ⟨_, SqL.of upd_same⟩, fun D hD => ?_⟩⟩
      have S9 := S8.same (same_new (o := .lst kindsV) hq)
      have e9 : (upd H8 q (.lst kindsV)) q = some (.lst kindsV) := upd_same
      generalize upd H8 q (.lst kindsV) = H9 at S9 e9 hD ⊢
      refine lc_list (K := K) (a := q) (xs := kindsV) (fun i H' => Same H9 H' ∧ H' D = some (.lst (((kds.take i).filter fun k => (step s k).isSome && decide (k ≠ .fin)).map fun k => .str k.law))) ⟨same_new hD, upd_same⟩ (fun i H' _ h => SqL.of (h.1 _ _ e9)) ?_ ?_
      · rintro j x H' hj ⟨sm, hd⟩
        obtain ⟨kd2, hkd2, rfl, hm⟩ := map_at hj
        have htk : kds.take (j + 1) = kds.take j ++ [kd2] := by rw [List.take_add_one, hkd2]; rfl
        obtain ⟨kvs, g1, g2⟩ := (S9.same sm).ta
        obtain ⟨dd, g3, g4⟩ := g2 s S.lv
        have dg1 := DGet.k (k := Sum.inr s.nm) g1
        rw [g3] at dg1
        have dg2 := DGet.k (k := Sum.inr kd2.law) g4
        refine ⟨rfl, _, rfl, _, rfl, _, rfl, t, _, rfl, dg1, dd, _, rfl, dg2, _, rfl, ?_⟩
        rw [inK_get, Option.isSome_map]
        have skip : ((step s kd2).isSome && decide (kd2 ≠ .fin)) = false → Same H9 H' ∧ H' D = some (.lst (((kds.take (j + 1)).filter fun k => (step s k).isSome && decide (k ≠ .fin)).map fun k => .str k.law)) := fun hn => ⟨sm, by
          rw [hd, htk, List.filter_append, List.filter_cons_of_neg (by rw [hn]; exact Bool.false_ne_true), List.filter_nil, List.append_nil]⟩
        cases hs : (step s kd2).isSome with
        | false => exact iteF (skip (by rw [hs]; rfl))
        | true =>
          refine iteT ⟨_, rfl, rfl, _, rfl, ?_⟩
          rw [show decide (V.str kd2.law = V.str (Str.ofString "end")) = decide (kd2 = .fin) from law_end _ (all_kds _)]
          by_cases hf : kd2 = .fin
          · rw [decide_eq_true hf]
            exact iteF (skip (by rw [hf]; exact Bool.and_false _))
          · rw [decide_eq_false hf]
            refine iteT ⟨_, rfl, _, hd, ?_, s_mut sm hD, ?_⟩
            · refine Evl.sz_lt ?_
              rw [List.length_map]
              exact Nat.lt_of_le_of_lt (List.length_filter_le _ _) (by rw [List.length_take]; exact Nat.lt_of_le_of_lt (Nat.min_le_right _ _) (by decide +kernel))
            · rw [upd_same, htk, List.filter_append, List.map_append, List.filter_cons_of_pos (by rw [hs, decide_eq_true hf]; rfl)]
              rfl
      · rintro H10 ⟨sm, hd⟩
        have hd' : H10 D = some (.lst ((optK s).map fun k => .str k.law)) := by
          rw [hd]
          unfold kindsV optK
          rw [List.length_map, List.take_length]
        have S10 := S9.same sm
        have nD := (S9.sa.apart hD).1
        refine ⟨_, rfl, _, .inl ⟨_, SqL.of hd', rfl⟩, ?_⟩
        have hol : (optK s).length ≤ 8 := List.length_filter_le _ _
        by_cases ho : optK s = []
        · rw [ho]
          exact iteF ⟨ws, s, _, _, _, _, rfl, S10, Nat.le_succ_of_le hwi⟩
        · obtain ⟨k0, r0, ho⟩ := List.exists_cons_of_ne_nil ho
          have hne : (!((optK s).map fun k => V.str k.law).isEmpty) = true := by rw [ho]; rfl
          rw [hne]
          refine iteT ⟨_, rfl, _, rfl, st, sl, D, _, rfl, S10.sa, hd', nD, by rw [List.length_map, ho]; exact Nat.succ_pos _, by rw [List.length_map]; omega, fun j x H11 b11 sa11 hx => ?_⟩
          obtain ⟨kn, _, rfl, hkm⟩ := map_at hx
          obtain ⟨_, hkc⟩ := List.mem_filter.mp hkm
          obtain ⟨hk1, hk2⟩ := Bool.and_eq_true_iff.mp hkc
          have hkf : kn ≠ .fin := of_decide_eq_true hk2
          obtain ⟨s', hs'⟩ := Option.isSome_iff_exists.mp hk1
          have S11 := S10.draw b11 sa11
          refine ⟨_, rfl, .inl ⟨rfl, _, SqL.of S11.wl⟩, _, rfl, _, rfl, st, sl, kn, rfl, S11.sa, hkf, fun y H12 b12 sa12 hy => ?_⟩
          have S12 := S11.draw b12 sa12
          obtain ⟨hyg, hyk⟩ := wd_goods hy
          have hln := S.ln
          refine ⟨wd, _, _, rfl, rfl, S12.wl, Evl.sz_lt (by rw [List.length_map]; omega), ?_⟩
          have ta13 := S12.ta.mut (o := .lst (ws.map V.str ++ [.str y])) S12.wl
          have S13 : Std (upd H12 wd (.lst (ws.map V.str ++ [.str y]))) st sl t wd kd (ws ++ [y]) s' := ⟨S12.sa.mut nws nwl, ta13, liv_step S.lv hkf hs', hkd, by rw [upd_same, List.map_append]; rfl, nws, by rw [List.length_append]; show ws.length + 1 ≤ 20; omega, fun z hz => by
            rcases List.mem_append.mp hz with h | h
            · exact S.gd z h
            · rw [List.mem_singleton.mp h]; exact hyg, by rw [walkS_snoc S.pa, hyk]; exact hs'⟩
          obtain ⟨kvs, g1, g2⟩ := ta13
          obtain ⟨dd, g3, g4⟩ := g2 s S.lv
          have dg1 := DGet.k (k := Sum.inr s.nm) g1
          rw [g3] at dg1
          have dg2 := DGet.k (k := Sum.inr kn.law) g4
          rw [inK_get, hs'] at dg2
          refine ⟨_, rfl, _, rfl, t, _, rfl, dg1, _, rfl, dd, _, rfl, dg2, ?_⟩
          exact ⟨ws ++ [y], s', _, _, _, _, rfl, S13, by rw [List.length_append]; show ws.length + 1 ≤ i + 1; omega⟩
    · rintro σ H7 ⟨ws, s, v6, v7, v8, v9, rfl, S, hwi⟩
      refine ⟨_, rfl, _, rfl, _, rfl, _, rfl, _, rfl, st, sl, t, wd, kd, ws, s, rfl, S, fun H8 b8 sa8 => ⟨_, rfl, iteT ?_⟩⟩
      exact ⟨_, rfl, _, rfl, _, rfl, _, rfl, _, rfl, st, sl, t, wd, kd, ws, s, rfl, S.draw b8 sa8, fun H' => k H'⟩
end
end K6

set_option Elab.async false
set_option linter.all false
set_option maxRecDepth 100000
set_option maxHeartbeats 0
namespace K6
open PySem PySem.Spec PyProof.Rows L2
theorem facts6 {P : Program} {w : World} {K : PySem.W.Frag} {h : Heap} {mg : Str → Option Value} {f : Addr} (X : K.In h) (G : h.Ns mainGlobals mg) (hfa : mg ("law" : Str) = some (.ref f)) (c : He.SaysD fa fn K) (d : exB K = true) :
    ∃ fd : FuncData, (∀ (s : Shared) (v : Value), BindsTo s fd ⟨[v], []⟩ [("_law_script", v)]) ∧ ∀ base : Heap, K.In base → base.Ns mainGlobals mg → FnOk P w K mg base CX0 10 f fd ["_law_script"] (spLaw K) := by
  have T : Tx K mg := Tx.mk' X G c d
  obtain ⟨fd, F⟩ := T.d_law
  have e := hfa.symm.trans T.g_law
  cases e
  have b := FunD.bindsA (ps := ["_law_script"]) F fun _ _ _ _ _ _ us hl => match us, hl with | [_], _ => rfl
  exact ⟨fd, fun s v => b s [v] rfl, fun base _ _ => ok_law T F⟩
end K6
open PySem PySem.W PySem.Calls PyProof.Rows
theorem PySem.Challenge.cw_rulerows_k69_whole_what_can_come_holds : PySem.Challenge.rw_rulerows_k69_whole_what_can_come.Holds := by
  w_on; o_law
  refine HandSHeadRun.head_any (r := OpenLaw.row PySem.Challenge.rw_rulerows_k69_whole_what_can_come) (q := view (OpenLaw.row PySem.Challenge.rw_rulerows_k69_whole_what_can_come).prog [59]) (H := K6.hk6) (ob := K6.ob6) (M := 4000) (loose := K6.lo6) (d := HandSHeadRun.topDef (OpenLaw.row PySem.Challenge.rw_rulerows_k69_whole_what_can_come).prog 59) (kwd := []) K6.ob6_eq
    (by kernel_rfl) (fun s => by kernel_rfl) K6.run6 (by kernel_rfl) (by kernel_rfl) (by kernel_rfl) (by rfl) (by first | assumption | decide +kernel) (by decide +kernel) ⟨rfl, rfl, rfl, rfl, rfl, by decide +kernel⟩ ?hw ?hc
  case hw => w_witness2
  case hc =>
    refine L2.walk_ofE (l := PySem.Challenge.rw_rulerows_k69_whole_what_can_come) (n := 63) (k := 10) (x := "_law_script") (CX := L2.CX0) rfl (by decide) (by kernel_rfl) ⟨rfl, by decide, by decide⟩ ?F (fun _ _ _ _ z => z)
    intro w mg fa h Y G hmg0
    obtain ⟨K, KX, c, d⟩ := Y
    have hmg : mg ("law" : PySem.Str) = some (.ref fa) := by
      have e : (HandSHeadRun.topDef (OpenLaw.row PySem.Challenge.rw_rulerows_k69_whole_what_can_come).prog 59).name = ("law" : PySem.Str) := by kernel_rfl
      rw [← e]
      exact hmg0
    obtain ⟨fd, hb, hF⟩ := K6.facts6 (P := (PySem.Challenge.rw_rulerows_k69_whole_what_can_come).prog) (w := w) KX G hmg c d
    exact ⟨K, fd, K6.spLaw K, KX, hb, fun H a ns hl _ hS => ⟨a, ns, rfl, hS, fun _ => rfl⟩, hF⟩
