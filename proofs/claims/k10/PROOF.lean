import PyProof.Rows.All
import Wide.All
import OpenK.AllK
import Wide.FinOn
import KE.KStateDown
import HandS.ForMost
import HandS.Exc
import HandS.ExcOwn
import HandS.ExcInit
import HandS.ExcField
import HandS.ExcIs
import HandS.WordsExc
import HandS.Defaults
import HandS.More
import HandS.Head0
import HandS.Head1
import HandS.Head2
import HandS.HeadEnd
import HandS.HeadHook1
import HandS.HeadHook2
import HandS.HeadHook3
import HandS.HeadHook4
import PySem.Challenge.RW_diesnon_k10_whole_any_text
import HandS.Star
import HandS.FStr
import HandS.TryMany
import HandS.Small
import HandS.Wide
import HandS.Flow
import HandS.Codes
import KE.IntTextLaws
import KE.KExcIs
import HandS.Replace
import PyProof.StrOps2
import PyProof.MeetsStr3
import PyProof.StrBlock
import PyProof.StrCalls6
set_option Elab.async false
set_option linter.all false
set_option maxRecDepth 100000
set_option maxHeartbeats 0
namespace KT
open PySem PySem.Spec
open PyProof.Rows L2
/-! ### the text by places -/
def topS (i : Nat) : Stmt := PySem.Challenge.pw_diesnon_k10_whole_any_text.main.body.getD i (.Pass ⟨0, 0, 0, 0⟩)
abbrev s_BadForm_init : Stmt := inClass (topS 4) 0
abbrev s_is_name : Stmt := topS 18
abbrev s_signs_of : Stmt := topS 19
abbrev s_form_of : Stmt := topS 20
abbrev s_parts_of : Stmt := topS 21
abbrev s_measure : Stmt := topS 22
abbrev s_check_size : Stmt := topS 23
abbrev s_token_end : Stmt := topS 32
abbrev s_tokens : Stmt := topS 33
abbrev s_Parser_init : Stmt := inClass (topS 34) 0
abbrev s_Parser_peek : Stmt := inClass (topS 34) 1
abbrev s_Parser_take : Stmt := inClass (topS 34) 2
abbrev s_Parser_need : Stmt := inClass (topS 34) 3
abbrev s_Parser_begin : Stmt := inClass (topS 34) 4
abbrev s_Parser_close : Stmt := inClass (topS 34) 5
abbrev s_Parser_name : Stmt := inClass (topS 34) 6
abbrev s_Parser_digits : Stmt := inClass (topS 34) 7
abbrev s_Parser_number : Stmt := inClass (topS 34) 8
abbrev s_Parser_term : Stmt := inClass (topS 34) 9
abbrev s_Parser_inner : Stmt := inClass (topS 34) 10
abbrev s_Parser_two_terms : Stmt := inClass (topS 34) 11
abbrev s_Parser_atom : Stmt := inClass (topS 34) 12
abbrev s_Parser_condition : Stmt := inClass (topS 34) 13
abbrev s_Parser_both : Stmt := inClass (topS 34) 14
abbrev s_Parser_unit : Stmt := inClass (topS 34) 15
abbrev s_Parser_compared : Stmt := inClass (topS 34) 16
abbrev s_Parser_end : Stmt := inClass (topS 34) 17
abbrev s_whole_term : Stmt := topS 35
abbrev s_whole_condition : Stmt := topS 36
abbrev s_read_term : Stmt := topS 37
abbrev s_read_condition : Stmt := topS 38
abbrev s_plus_text : Stmt := topS 40
abbrev s_term_text : Stmt := topS 41
abbrev s_bracketed : Stmt := topS 42
abbrev s_condition_text : Stmt := topS 43
abbrev s__law_row : Stmt := topS 45
abbrev s__law_at : Stmt := topS 46
abbrev s__law_next : Stmt := topS 47
abbrev s__law_term : Stmt := topS 48
abbrev s__law_condition : Stmt := topS 49
abbrev s__law_text : Stmt := topS 53
abbrev s__law_tokens : Stmt := topS 54
abbrev s__law_word : Stmt := topS 55
abbrev s__law_is_name : Stmt := topS 56
abbrev s__law_number : Stmt := topS 57
abbrev s__law_is : Stmt := topS 58
abbrev s__law_named : Stmt := topS 59
abbrev s__law_inner : Stmt := topS 60
abbrev s__law_two : Stmt := topS 61
abbrev s__law_atom : Stmt := topS 62
abbrev s__law_t : Stmt := topS 63
abbrev s__law_unit : Stmt := topS 64
abbrev s__law_c : Stmt := topS 65
abbrev s__law_told : Stmt := topS 66
abbrev s_law : Stmt := topS 67
def d_BadForm_init : He.DefD := ⟨("BadForm", some "__init__"), "__init__", "BadForm.__init__", defArgs s_BadForm_init, defBody s_BadForm_init, defScope s_BadForm_init, [], []⟩
def d_is_name : He.DefD := ⟨("is_name", none), "is_name", "is_name", defArgs s_is_name, defBody s_is_name, defScope s_is_name, [], []⟩
def d_signs_of : He.DefD := ⟨("signs_of", none), "signs_of", "signs_of", defArgs s_signs_of, defBody s_signs_of, defScope s_signs_of, [], []⟩
def d_form_of : He.DefD := ⟨("form_of", none), "form_of", "form_of", defArgs s_form_of, defBody s_form_of, defScope s_form_of, [], []⟩
def d_parts_of : He.DefD := ⟨("parts_of", none), "parts_of", "parts_of", defArgs s_parts_of, defBody s_parts_of, defScope s_parts_of, [], []⟩
def d_measure : He.DefD := ⟨("measure", none), "measure", "measure", defArgs s_measure, defBody s_measure, defScope s_measure, [], []⟩
def d_check_size : He.DefD := ⟨("check_size", none), "check_size", "check_size", defArgs s_check_size, defBody s_check_size, defScope s_check_size, [], []⟩
def d_token_end : He.DefD := ⟨("token_end", none), "token_end", "token_end", defArgs s_token_end, defBody s_token_end, defScope s_token_end, [], []⟩
def d_tokens : He.DefD := ⟨("tokens", none), "tokens", "tokens", defArgs s_tokens, defBody s_tokens, defScope s_tokens, [], []⟩
def d_Parser_init : He.DefD := ⟨("Parser", some "__init__"), "__init__", "Parser.__init__", defArgs s_Parser_init, defBody s_Parser_init, defScope s_Parser_init, [], []⟩
def d_Parser_peek : He.DefD := ⟨("Parser", some "peek"), "peek", "Parser.peek", defArgs s_Parser_peek, defBody s_Parser_peek, defScope s_Parser_peek, [], []⟩
def d_Parser_take : He.DefD := ⟨("Parser", some "take"), "take", "Parser.take", defArgs s_Parser_take, defBody s_Parser_take, defScope s_Parser_take, [], []⟩
def d_Parser_need : He.DefD := ⟨("Parser", some "need"), "need", "Parser.need", defArgs s_Parser_need, defBody s_Parser_need, defScope s_Parser_need, [], []⟩
def d_Parser_begin : He.DefD := ⟨("Parser", some "begin"), "begin", "Parser.begin", defArgs s_Parser_begin, defBody s_Parser_begin, defScope s_Parser_begin, [], []⟩
def d_Parser_close : He.DefD := ⟨("Parser", some "close"), "close", "Parser.close", defArgs s_Parser_close, defBody s_Parser_close, defScope s_Parser_close, [], []⟩
def d_Parser_name : He.DefD := ⟨("Parser", some "name"), "name", "Parser.name", defArgs s_Parser_name, defBody s_Parser_name, defScope s_Parser_name, [], []⟩
def d_Parser_digits : He.DefD := ⟨("Parser", some "digits"), "digits", "Parser.digits", defArgs s_Parser_digits, defBody s_Parser_digits, defScope s_Parser_digits, [], []⟩
def d_Parser_number : He.DefD := ⟨("Parser", some "number"), "number", "Parser.number", defArgs s_Parser_number, defBody s_Parser_number, defScope s_Parser_number, [], []⟩
def d_Parser_term : He.DefD := ⟨("Parser", some "term"), "term", "Parser.term", defArgs s_Parser_term, defBody s_Parser_term, defScope s_Parser_term, [], []⟩
def d_Parser_inner : He.DefD := ⟨("Parser", some "inner"), "inner", "Parser.inner", defArgs s_Parser_inner, defBody s_Parser_inner, defScope s_Parser_inner, [], []⟩
def d_Parser_two_terms : He.DefD := ⟨("Parser", some "two_terms"), "two_terms", "Parser.two_terms", defArgs s_Parser_two_terms, defBody s_Parser_two_terms, defScope s_Parser_two_terms, [], []⟩
def d_Parser_atom : He.DefD := ⟨("Parser", some "atom"), "atom", "Parser.atom", defArgs s_Parser_atom, defBody s_Parser_atom, defScope s_Parser_atom, [], []⟩
def d_Parser_condition : He.DefD := ⟨("Parser", some "condition"), "condition", "Parser.condition", defArgs s_Parser_condition, defBody s_Parser_condition, defScope s_Parser_condition, [], []⟩
def d_Parser_both : He.DefD := ⟨("Parser", some "both"), "both", "Parser.both", defArgs s_Parser_both, defBody s_Parser_both, defScope s_Parser_both, [], []⟩
def d_Parser_unit : He.DefD := ⟨("Parser", some "unit"), "unit", "Parser.unit", defArgs s_Parser_unit, defBody s_Parser_unit, defScope s_Parser_unit, [], []⟩
def d_Parser_compared : He.DefD := ⟨("Parser", some "compared"), "compared", "Parser.compared", defArgs s_Parser_compared, defBody s_Parser_compared, defScope s_Parser_compared, [], []⟩
def d_Parser_end : He.DefD := ⟨("Parser", some "end"), "end", "Parser.end", defArgs s_Parser_end, defBody s_Parser_end, defScope s_Parser_end, [], []⟩
def d_whole_term : He.DefD := ⟨("whole_term", none), "whole_term", "whole_term", defArgs s_whole_term, defBody s_whole_term, defScope s_whole_term, [], []⟩
def d_whole_condition : He.DefD := ⟨("whole_condition", none), "whole_condition", "whole_condition", defArgs s_whole_condition, defBody s_whole_condition, defScope s_whole_condition, [], []⟩
def d_read_term : He.DefD := ⟨("read_term", none), "read_term", "read_term", defArgs s_read_term, defBody s_read_term, defScope s_read_term, [], []⟩
def d_read_condition : He.DefD := ⟨("read_condition", none), "read_condition", "read_condition", defArgs s_read_condition, defBody s_read_condition, defScope s_read_condition, [], []⟩
def d_plus_text : He.DefD := ⟨("plus_text", none), "plus_text", "plus_text", defArgs s_plus_text, defBody s_plus_text, defScope s_plus_text, [], []⟩
def d_term_text : He.DefD := ⟨("term_text", none), "term_text", "term_text", defArgs s_term_text, defBody s_term_text, defScope s_term_text, [], []⟩
def d_bracketed : He.DefD := ⟨("bracketed", none), "bracketed", "bracketed", defArgs s_bracketed, defBody s_bracketed, defScope s_bracketed, [], []⟩
def d_condition_text : He.DefD := ⟨("condition_text", none), "condition_text", "condition_text", defArgs s_condition_text, defBody s_condition_text, defScope s_condition_text, [], []⟩
def d__law_row : He.DefD := ⟨("_law_row", none), "_law_row", "_law_row", defArgs s__law_row, defBody s__law_row, defScope s__law_row, [], []⟩
def d__law_at : He.DefD := ⟨("_law_at", none), "_law_at", "_law_at", defArgs s__law_at, defBody s__law_at, defScope s__law_at, [], []⟩
def d__law_next : He.DefD := ⟨("_law_next", none), "_law_next", "_law_next", defArgs s__law_next, defBody s__law_next, defScope s__law_next, [], []⟩
def d__law_term : He.DefD := ⟨("_law_term", none), "_law_term", "_law_term", defArgs s__law_term, defBody s__law_term, defScope s__law_term, [], []⟩
def d__law_condition : He.DefD := ⟨("_law_condition", none), "_law_condition", "_law_condition", defArgs s__law_condition, defBody s__law_condition, defScope s__law_condition, [], []⟩
def d__law_text : He.DefD := ⟨("_law_text", none), "_law_text", "_law_text", defArgs s__law_text, defBody s__law_text, defScope s__law_text, [], []⟩
def d__law_tokens : He.DefD := ⟨("_law_tokens", none), "_law_tokens", "_law_tokens", defArgs s__law_tokens, defBody s__law_tokens, defScope s__law_tokens, [], []⟩
def d__law_word : He.DefD := ⟨("_law_word", none), "_law_word", "_law_word", defArgs s__law_word, defBody s__law_word, defScope s__law_word, [], []⟩
def d__law_is_name : He.DefD := ⟨("_law_is_name", none), "_law_is_name", "_law_is_name", defArgs s__law_is_name, defBody s__law_is_name, defScope s__law_is_name, [], []⟩
def d__law_number : He.DefD := ⟨("_law_number", none), "_law_number", "_law_number", defArgs s__law_number, defBody s__law_number, defScope s__law_number, [], []⟩
def d__law_is : He.DefD := ⟨("_law_is", none), "_law_is", "_law_is", defArgs s__law_is, defBody s__law_is, defScope s__law_is, [], []⟩
def d__law_named : He.DefD := ⟨("_law_named", none), "_law_named", "_law_named", defArgs s__law_named, defBody s__law_named, defScope s__law_named, [], []⟩
def d__law_inner : He.DefD := ⟨("_law_inner", none), "_law_inner", "_law_inner", defArgs s__law_inner, defBody s__law_inner, defScope s__law_inner, [], []⟩
def d__law_two : He.DefD := ⟨("_law_two", none), "_law_two", "_law_two", defArgs s__law_two, defBody s__law_two, defScope s__law_two, [], []⟩
def d__law_atom : He.DefD := ⟨("_law_atom", none), "_law_atom", "_law_atom", defArgs s__law_atom, defBody s__law_atom, defScope s__law_atom, [], []⟩
def d__law_t : He.DefD := ⟨("_law_t", none), "_law_t", "_law_t", defArgs s__law_t, defBody s__law_t, defScope s__law_t, [], []⟩
def d__law_unit : He.DefD := ⟨("_law_unit", none), "_law_unit", "_law_unit", defArgs s__law_unit, defBody s__law_unit, defScope s__law_unit, [], []⟩
def d__law_c : He.DefD := ⟨("_law_c", none), "_law_c", "_law_c", defArgs s__law_c, defBody s__law_c, defScope s__law_c, [], []⟩
def d__law_told : He.DefD := ⟨("_law_told", none), "_law_told", "_law_told", defArgs s__law_told, defBody s__law_told, defScope s__law_told, [], []⟩
def d_law : He.DefD := ⟨("law", none), "law", "law", defArgs s_law, defBody s_law, defScope s_law, [], []⟩
def fnL : List He.DefD := [d_BadForm_init, d_is_name, d_signs_of, d_form_of, d_parts_of, d_measure, d_check_size, d_token_end, d_tokens, d_Parser_init, d_Parser_peek, d_Parser_take, d_Parser_need, d_Parser_begin, d_Parser_close, d_Parser_name, d_Parser_digits, d_Parser_number, d_Parser_term, d_Parser_inner, d_Parser_two_terms, d_Parser_atom, d_Parser_condition, d_Parser_both, d_Parser_unit, d_Parser_compared, d_Parser_end, d_whole_term, d_whole_condition, d_read_term, d_read_condition, d_plus_text, d_term_text, d_bracketed, d_condition_text, d__law_row, d__law_at, d__law_next, d__law_term, d__law_condition, d__law_text, d__law_tokens, d__law_word, d__law_is_name, d__law_number, d__law_is, d__law_named, d__law_inner, d__law_two, d__law_atom, d__law_t, d__law_unit, d__law_c, d__law_told, d_law]
def faL : List He.Fa := [.glo "DiesError", .glo "NotAllowed", .glo "TooLarge", .glo "BadForm", .glo "Parser", .glo "is_name", .glo "signs_of", .glo "form_of", .glo "parts_of", .glo "measure", .glo "check_size", .glo "token_end", .glo "tokens", .glo "whole_term", .glo "whole_condition", .glo "read_term", .glo "read_condition", .glo "plus_text", .glo "term_text", .glo "bracketed", .glo "condition_text", .glo "_law_row", .glo "_law_at", .glo "_law_next", .glo "_law_term", .glo "_law_condition", .glo "_law_text", .glo "_law_tokens", .glo "_law_word", .glo "_law_is_name", .glo "_law_number", .glo "_law_is", .glo "_law_named", .glo "_law_inner", .glo "_law_two", .glo "_law_atom", .glo "_law_t", .glo "_law_unit", .glo "_law_c", .glo "_law_told", .glo "law", .glo "WORDS", .glo "YES", .glo "CASE_WORDS", .glo "TERMS", .glo "CONDITIONS", .glo "CASE_TERMS", .glo "CASE_CONDITIONS", .free "len", .free "all", .free "int", .free "max", .free "range", .free "isinstance", .free "abs", .free "str", .int "MAX_NODES" 400, .int "MAX_DEPTH" 40, .int "MAX_NUMBER" 1000000, .int "MAX_COUNT" 6, .int "MAX_NAME" 20, .int "MAX_DIGITS" 7, .int "MAX_LEVELS" 100, .str "SMALL" "abcdefghijklmnopqrstuvwxyz", .str "REST" "abcdefghijklmnopqrstuvwxyz0123456789", .str "DIGITS" "0123456789", .str "SIGNS" "abcdefghijklmnopqrstuvwxyz0123456789", .str "MARKS" "@+-(),<=?[]", .cls "Parser", .mkr "Parser", .noat "Parser" "row", .noat "Parser" "cases", .noat "Parser" "flags", .noat "Parser" "at", .noat "Parser" "level", .meth "Parser" "__init__", .meth "Parser" "peek", .meth "Parser" "take", .meth "Parser" "need", .meth "Parser" "begin", .meth "Parser" "close", .meth "Parser" "name", .meth "Parser" "digits", .meth "Parser" "number", .meth "Parser" "term", .meth "Parser" "inner", .meth "Parser" "two_terms", .meth "Parser" "atom", .meth "Parser" "condition", .meth "Parser" "both", .meth "Parser" "unit", .meth "Parser" "compared", .meth "Parser" "end", .exc "TooLarge", .exm "BadForm" "BadForm" true, .exm "TooLarge" "BadForm" false, .exm "TooLarge" "TooLarge" true, .noat "BadForm" "line", .keep "BadForm"]
def tsL : List He.Tab := [(fun K => He.ga K "TERMS", ["day", "at", "plus", "next", "prev", "nth", "later", "earlier", "if"]), (fun K => He.ga K "CONDITIONS", ["le", "is", "flag", "yes", "not", "and", "or"]), (fun K => He.ga K "CASE_TERMS", ["due"]), (fun K => He.ga K "CASE_CONDITIONS", ["called", "missed", "filed"])]
def wordsV : List He.Dv := [.str "next", .str "prev", .str "open", .str "later", .str "earlier", .str "if", .str "is", .str "not", .str "and", .str "or", .str "yes", .str "calendar", .str "run", .str "within", .str "known", .str "to", .str "closed", .str "assume", .str "claim", .str "event", .str "rule", .str "on", .str "when", .str "due", .str "met", .str "called", .str "missed", .str "filed"]
def caseV : List He.Dv := [.str "called", .str "missed", .str "filed"]
/-- keys that a table of the top does not hold -/
def absB (K : PySem.W.Frag) (a : Addr) (ks : List Str) : Bool := ks.all fun k => He.eqO (PySem.W.nsIn K a k) (some none)
theorem absB_ok {K : PySem.W.Frag} {a : Addr} {ks : List Str} (h : absB K a ks = true) {k : Str} (hk : k ∈ ks) : PySem.W.nsIn K a k = some none := He.eqO_ok (List.all_eq_true.mp h k hk)
/-- the class of an own exception, its mro by own classes down to ValueError's -/
def oexB (K : PySem.W.Frag) (C : Addr) : Bool := (match K.lookup C with
  | some ⟨.type t, _, .cls cd, sl⟩ => decide (t = "type") && (match cd.mro, sl.toList with
    | .ref D :: bm, [_, _, _, _, some (.builtin n), _] => decide (D = C) && (decide (n = "ValueError.__new__") && (!cd.hasDel && (cd.hasDict && PySem.HandSPX.refsVE bm)))
    | _, _ => false)
  | _ => false) && (He.eqO (PySem.W.findIn K (.ref C) "__setattr__") (some (some (.builtin "object.__setattr__"))) && (decide (PySem.W.subIn K (.ref C) (.type "BaseException") = some true) && (decide (PySem.W.typeIn K (.ref C) = some (.type "type")) && PySem.W.keepIn K (.ref C))))
theorem oexB_ok {K : PySem.W.Frag} {C : Addr} (h : oexB K C = true) : OexC K C := by
  obtain ⟨h1, h2⟩ := He.ba h
  obtain ⟨h3, h4⟩ := He.ba h2
  obtain ⟨h5, h6⟩ := He.ba h4
  obtain ⟨h7, h8⟩ := He.ba h6
  refine ⟨?_, He.eqO_ok h3, of_decide_eq_true h5, of_decide_eq_true h7, h8⟩
  split at h1
  · rename_i t dd cd sl ho
    obtain ⟨a1, a2⟩ := He.ba h1
    obtain rfl := of_decide_eq_true a1
    split at a2
    · rename_i D bm k0 k1 k2 k3 n k5 hm hs
      obtain ⟨b1, b2⟩ := He.ba a2
      obtain ⟨b3, b4⟩ := He.ba b2
      obtain ⟨b5, b6⟩ := He.ba b4
      obtain ⟨b7, b8⟩ := He.ba b6
      obtain rfl := of_decide_eq_true b1
      obtain rfl := of_decide_eq_true b3
      obtain ⟨nm, bs, mro, ns, qn, hd, sn, sub, ab, col, del⟩ := cd
      dsimp only at hm b5 b7
      subst hm b7
      have hdel : del = false := by cases del with
        | false => rfl
        | true => cases b5
      subst hdel
      have hsl : sl = #[k0, k1, k2, k3, some (.builtin "ValueError.__new__"), k5] := by
        obtain ⟨l⟩ := sl
        simp only at hs
        rw [hs]
      subst hsl
      exact ⟨nm, qn, ns, bs, bm, sn, sub, ab, col, dd, k0, k1, k2, k3, k5, ho, b8⟩
    · cases a2
  · cases h1
/-- what isinstance asks of it -/
def exisB (K : PySem.W.Frag) (D : Addr) : Bool := He.eqO (PySem.W.findIn K (.ref D) "__class__") (some (some (.builtin "object.__class__"))) && (He.eqO (PySem.W.specialIn K (.builtin "object.__class__") "__get__") (some (some (.builtin "getset_descriptor.__get__"))) && (decide (PySem.W.takesIn K (.builtin "object.__class__") = some true) && decide (PySem.W.mroIn K D (.type "object") = some true)))
theorem exisB_ok {K : PySem.W.Frag} {D : Addr} (h : exisB K D = true) (x : xfB K D = true) : ExcC K D := by
  obtain ⟨h1, h2⟩ := He.ba h
  obtain ⟨h3, h4⟩ := He.ba h2
  obtain ⟨h5, h6⟩ := He.ba h4
  have y := xfB_ok x
  exact ⟨y.ga, y.gg, y.exC, y.hdC, He.eqO_ok h1, He.eqO_ok h3, of_decide_eq_true h5, of_decide_eq_true h6⟩
def exL (K : PySem.W.Frag) : List Bool := [He.tupB K "WORDS" wordsV,
  He.tupB K "YES" [.str "yes"],
  He.tupB K "CASE_WORDS" caseV,
  He.valsB K (He.ga K "TERMS") [("day", .str "d"), ("at", .str "n"), ("plus", .str "tn"), ("next", .str "kt"), ("prev", .str "kt"), ("nth", .str "ktm"), ("later", .str "tt"), ("earlier", .str "tt"), ("if", .str "ctt")],
  He.valsB K (He.ga K "CONDITIONS") [("le", .str "tt"), ("is", .str "kt"), ("flag", .str "f"), ("yes", .str ""), ("not", .str "c"), ("and", .str "cc"), ("or", .str "cc")],
  He.valsB K (He.ga K "CASE_TERMS") [("due", .str "r")],
  He.valsB K (He.ga K "CASE_CONDITIONS") [("called", .str "r"), ("missed", .str "r"), ("filed", .str "r")],
  absB K (He.ga K "TERMS") ["le", "is", "flag", "yes", "not", "and", "or"],
  absB K (He.ga K "CONDITIONS") ["day", "at", "plus", "next", "prev", "nth", "later", "earlier", "if"],
  absB K (He.ga K "CASE_TERMS") ["day", "at", "plus", "next", "prev", "nth", "later", "earlier", "if", "le", "is", "flag", "yes", "not", "and", "or"],
  absB K (He.ga K "CASE_CONDITIONS") ["day", "at", "plus", "next", "prev", "nth", "later", "earlier", "if", "le", "is", "flag", "yes", "not", "and", "or"],
  oexB K (He.ga K "BadForm"),
  xfB K (He.ga K "BadForm"),
  exisB K (He.ga K "BadForm"),
  He.eqO (PySem.W.findIn K (.ref (He.ga K "BadForm")) "__init__") (some (some (.ref (He.ma K (He.ga K "BadForm") "__init__")))),
  decide (PySem.W.typeIn K (.ref (He.ma K (He.ga K "BadForm") "__init__")) = some (.type "function")),
  decide (PySem.W.kitOne K (.ref (He.ga K "BadForm")) (.ref (He.ga K "DiesError")) = some true),
  decide (PySem.W.kitOne K (.ref (He.ga K "BadForm")) (.ref (He.ga K "NotAllowed")) = some false),
  decide (PySem.W.kitOne K (.ref (He.ga K "BadForm")) (.ref (He.ga K "TooLarge")) = some false)]
def exB (K : PySem.W.Frag) : Bool := (exL K).all fun b => b
abbrev Says (w : World) (h : Heap) (K : PySem.W.Frag) : Prop := He.SaysX faL fnL tsL [] exB w h K
theorem Says.ex {w : World} {h : Heap} {K : PySem.W.Frag} (c : Says w h K) (i : Nat) {b : Bool} (e : (exL K)[i]? = some b := by rfl) : b = true := List.all_eq_true.mp (show ((exL K).all fun b => b) = true from c.more) b (List.mem_of_getElem? e)
theorem Says.fact {w : World} {h : Heap} {K : PySem.W.Frag} (c : Says w h K) (f : He.Fa) (e : f ∈ faL := by first | decide | simp [faL]) : f.ok K = true := c.t.d.facts e
end KT

namespace KH
open KT
open PySem PySem.Spec
open PyProof.Rows L2
abbrev R : PySem.W.OpenRow := PySem.W.OpenLaw.row PySem.Challenge.rw_diesnon_k10_whole_any_text
abbrev hk : PySem.W.Hook := He.hookX 4 faL fnL tsL [] exB
def ob (s : PySem.W.SharedT) : He.AlX := He.obsX 4 faL fnL tsL [] exB (HandSHeadRun.getT s)
theorem ob_eq (s : PySem.W.SharedT) : ob s = hk.obs s.abs := He.obsX_eq (HandSHeadRun.getT_eq s)
def looseN0 : List Str := ["DiesError", "NotAllowed", "TooLarge", "BadForm", "MAX_NODES", "MAX_DEPTH", "MAX_NUMBER", "MAX_COUNT", "MAX_NAME", "WORDS", "SMALL", "REST", "TERMS", "CONDITIONS", "CASE_TERMS", "CASE_CONDITIONS", "is_name", "signs_of", "form_of", "parts_of", "measure", "check_size", "MAX_DIGITS", "MAX_LEVELS", "DIGITS", "SIGNS", "MARKS", "YES", "CASE_WORDS", "token_end"]
def looseN1 : List Str := ["tokens", "Parser", "whole_term", "whole_condition", "read_term", "read_condition", "plus_text", "term_text", "bracketed", "condition_text", "_law_row", "_law_at", "_law_next", "_law_term", "_law_condition", "_law_parts", "_law_size", "_law_depth", "_law_text", "_law_tokens", "_law_word", "_law_is_name", "_law_number", "_law_is", "_law_named", "_law_inner", "_law_two", "_law_atom", "_law_t", "_law_unit"]
def looseN2 : List Str := ["_law_c", "_law_told"]
def looseN : List Str := looseN0 ++ looseN1 ++ looseN2
theorem run_false (w : World) : HandSHeadRun.RunEq R (PySem.W.view R.prog [67]) hk ob 4000 looseN (w.withFollow "special-get-raises" false) := by
  intro os
  kernel_rfl
theorem run_true (w : World) : HandSHeadRun.RunEq R (PySem.W.view R.prog [67]) hk ob 4000 looseN (w.withFollow "special-get-raises" true) := by
  intro os
  kernel_rfl
theorem run (w : World) : HandSHeadRun.RunEq R (PySem.W.view R.prog [67]) hk ob 4000 looseN w :=
  PySem.W.byRow2 "special-get-raises" (P := fun w => HandSHeadRun.RunEq R (PySem.W.view R.prog [67]) hk ob 4000 looseN w) run_false run_true w
end KH

/-! The mathematics, no program in sight: nodes, tokens, the parser's mirror, the walk's mirror. -/
namespace KM
open PySem

/-! ### nodes -/
inductive Nd where
  | day (x : Str) | num (n : Int) | plus (t : Nd) (n : Int)
  | near (fw : Bool) (k : Str) (t : Nd) | nth (k : Str) (t : Nd) (n : Int)
  | pick (lt : Bool) (t u : Nd) | ite (c t u : Nd)
  | le (t u : Nd) | isO (k : Str) (t : Nd) | flag (x : Str) | yes | neg (c : Nd) | conj (c d : Nd) | disj (c d : Nd)

def enc : Nd → PyData
  | .day x => .tuple [.str "day", .str x]
  | .num n => .tuple [.str "at", .int n]
  | .plus t n => .tuple [.str "plus", enc t, .int n]
  | .near b k t => .tuple [.str (if b = true then "next" else "prev"), .str k, enc t]
  | .nth k t n => .tuple [.str "nth", .str k, enc t, .int n]
  | .pick b t u => .tuple [.str (if b = true then "later" else "earlier"), enc t, enc u]
  | .ite c t u => .tuple [.str "if", enc c, enc t, enc u]
  | .le t u => .tuple [.str "le", enc t, enc u]
  | .isO k t => .tuple [.str "is", .str k, enc t]
  | .flag x => .tuple [.str "flag", .str x]
  | .yes => .tuple [.str "yes"]
  | .neg c => .tuple [.str "not", enc c]
  | .conj c d => .tuple [.str "and", enc c, enc d]
  | .disj c d => .tuple [.str "or", enc c, enc d]

def size : Nd → Nat
  | .day _ => 1 | .num _ => 1 | .plus t _ => size t + 1 | .near _ _ t => size t + 1 | .nth _ t _ => size t + 1
  | .pick _ t u => size t + size u + 1 | .ite c t u => size c + size t + size u + 1
  | .le t u => size t + size u + 1 | .isO _ t => size t + 1 | .flag _ => 1 | .yes => 1 | .neg c => size c + 1
  | .conj c d => size c + size d + 1 | .disj c d => size c + size d + 1
def depth : Nd → Nat
  | .day _ => 1 | .num _ => 1 | .plus t _ => depth t + 1 | .near _ _ t => depth t + 1 | .nth _ t _ => depth t + 1
  | .pick _ t u => max (depth t) (depth u) + 1 | .ite c t u => max (depth c) (max (depth t) (depth u)) + 1
  | .le t u => max (depth t) (depth u) + 1 | .isO _ t => depth t + 1 | .flag _ => 1 | .yes => 1 | .neg c => depth c + 1
  | .conj c d => max (depth c) (depth d) + 1 | .disj c d => max (depth c) (depth d) + 1
theorem size_pos (n : Nd) : 1 ≤ size n := by cases n <;> simp [size]
theorem depth_pos (n : Nd) : 1 ≤ depth n := by cases n <;> simp [depth]
theorem depth_le_size (n : Nd) : depth n ≤ size n := by induction n <;> simp only [size, depth] <;> omega

/-! ### tokens -/
def sm (c : Nat) : Bool := decide (97 ≤ c) && decide (c ≤ 122)
def dg (c : Nat) : Bool := decide (48 ≤ c) && decide (c ≤ 57)
def al (c : Nat) : Bool := sm c || dg c
def mk (c : Nat) : Bool := ([64, 43, 45, 40, 41, 44, 60, 61, 63, 91, 93] : List Nat).contains c
def words : List Str := ["next", "prev", "open", "later", "earlier", "if", "is", "not", "and", "or", "yes", "calendar", "run", "within", "known", "to", "closed", "assume", "claim", "event", "rule", "on", "when", "due", "met", "called", "missed", "filed"]
abbrev tl (x : Str) : List Nat := x.cps.toList
def isName (t : Str) : Bool := decide (1 ≤ (tl t).length) && (decide ((tl t).length ≤ 20) && (!(words.contains t) && ((match tl t with | c :: _ => sm c | [] => false) && (tl t).all al)))
def dval (l : List Nat) : Nat := NumText.digitsVal l
def digOk (t : Str) : Option Nat := if (decide (1 ≤ (tl t).length) && (decide ((tl t).length ≤ 7) && ((tl t).all dg && (!(decide (2 ≤ (tl t).length) && decide ((tl t).head? = some 48)) && decide (dval (tl t) ≤ 1000000))))) = true then some (dval (tl t)) else none
theorem digOk_le {t : Str} {n : Nat} (h : digOk t = some n) : n ≤ 1000000 := by
  unfold digOk at h
  split at h
  · rename_i c
    simp only [Bool.and_eq_true, decide_eq_true_eq] at c
    have e := Option.some.inj h
    omega
  · cases h

/-! ### the parser's answers -/
inductive R where
  | out | bad | ok (ns : List Nd) (rest : List Str)
def R.one (x : R) (k : Nd → List Str → R) : R := match x with
  | .out => .out
  | .bad => .bad
  | .ok [t] r => k t r
  | .ok _ _ => .bad
def R.duo (x : R) (k : Nd → Nd → List Str → R) : R := match x with
  | .out => .out
  | .bad => .bad
  | .ok [t, u] r => k t u r
  | .ok _ _ => .bad
def R.thn (x : R) (k : List Str → R) : R := match x with
  | .out => .out
  | .bad => .bad
  | .ok _ r => k r
def exp (w : Str) (ts : List Str) (k : List Str → R) : R := match ts with
  | s :: r => if s = w then k r else .bad
  | [] => .bad
def beg (w : Str) (lv : Nat) (ts : List Str) (k : List Str → R) : R := exp w ts fun r => if 100 ≤ lv then .bad else k r
def nam (ts : List Str) (k : Str → List Str → R) : R := match ts with
  | s :: r => if isName s = true then k s r else .bad
  | [] => .bad
def digs (ts : List Str) (k : Nat → List Str → R) : R := match ts with
  | s :: r => (match digOk s with
    | some n => k n r
    | none => .bad)
  | [] => .bad
def nums (ts : List Str) (k : Int → List Str → R) : R := match ts with
  | s :: r => if s = "-" then digs r fun n q => k (-(n : Int)) q else digs (s :: r) fun n q => k (n : Int) q
  | [] => .bad

inductive Kd where
  | term | inner | two | atom | cond | both | unit | comp | ors (c : Nd) | ands (c : Nd)
/-- the additions behind an atom -/
def adds (t : Nd) : List Str → R
  | [] => .ok [t] []
  | [s] => if s = "+" ∨ s = "-" then .bad else .ok [t] [s]
  | s :: d :: r => if s = "+" ∨ s = "-" then (match digOk d with
    | some n => adds (.plus t (if s = "-" then -(n : Int) else (n : Int))) r
    | none => .bad) else .ok [t] (s :: d :: r)
def relN (s : Str) (t u : Nd) : Nd := if s = "<" then .le (.plus t 1) u else if s = "=" then .conj (.le t u) (.le u t) else .le t u
def step (P : Kd → Nat → List Str → R) : Kd → Nat → List Str → R
  | .term, lv, ts => (P .atom lv ts).one fun t r => adds t r
  | .inner, lv, ts => beg "(" lv ts fun r => (P .term (lv + 1) r).one fun t r => exp ")" r fun r => .ok [t] r
  | .two, lv, ts => (P .term lv ts).one fun t r => exp "," r fun r => (P .term lv r).one fun u r => exp ")" r fun r => .ok [t, u] r
  | .atom, lv, ts => (match ts with
    | [] => .bad
    | s :: r => if s = "(" then P .inner lv (s :: r)
      else if s = "@" then nums r fun n r => .ok [.num n] r
      else if s = "next" ∨ s = "prev" then nam r fun k r => (P .inner lv r).one fun t r => .ok [.near (decide (s = "next")) k t] r
      else if s = "open" then nam r fun k r => nums r fun n r => if n = 0 ∨ n > 6 ∨ n < -6 then .bad else (P .inner lv r).one fun t r => .ok [.nth k t n] r
      else if s = "later" ∨ s = "earlier" then beg "(" lv r fun r => (P .two (lv + 1) r).duo fun t u r => .ok [.pick (decide (s = "later")) t u] r
      else if s = "if" then beg "(" lv r fun r => (P .cond (lv + 1) r).one fun c r => exp "," r fun r => (P .two (lv + 1) r).duo fun t u r => .ok [.ite c t u] r
      else if isName s = true then .ok [.day s] r else .bad)
  | .cond, lv, ts => (P .both lv ts).one fun c r => P (.ors c) lv r
  | .ors c, lv, ts => (match ts with
    | [] => .ok [c] []
    | s :: r => if s = "or" then (P .both lv r).one fun d r => P (.ors (.disj c d)) lv r else .ok [c] (s :: r))
  | .both, lv, ts => (P .unit lv ts).one fun c r => P (.ands c) lv r
  | .ands c, lv, ts => (match ts with
    | [] => .ok [c] []
    | s :: r => if s = "and" then (P .unit lv r).one fun d r => P (.ands (.conj c d)) lv r else .ok [c] (s :: r))
  | .unit, lv, ts => (match ts with
    | [] => P .comp lv []
    | s :: r => if s = "not" then (if 100 ≤ lv then .bad else (P .unit (lv + 1) r).one fun c r => .ok [.neg c] r)
      else if s = "yes" then .ok [.yes] r
      else if s = "?" then nam r fun x r => .ok [.flag x] r
      else if s = "is" then nam r fun k r => (P .inner lv r).one fun t r => .ok [.isO k t] r
      else if s = "[" then (if 100 ≤ lv then .bad else (P .cond (lv + 1) r).one fun c r => exp "]" r fun r => .ok [c] r)
      else P .comp lv (s :: r))
  | .comp, lv, ts => (P .term lv ts).one fun t r => (match r with
    | [] => .bad
    | s :: r => if s = "<=" ∨ s = "<" ∨ s = "=" then (P .term lv r).one fun u r => .ok [relN s t u] r else .bad)
def P : Nat → Kd → Nat → List Str → R
  | 0 => fun _ _ _ => .out
  | f + 1 => step (P f)

/-! ### more fuel, the same answer -/
def R.le (x y : R) : Prop := x = .out ∨ x = y
theorem le_refl (x : R) : x.le x := .inr rfl
theorem one_le {x y : R} {k k' : Nd → List Str → R} (h : x.le y) (hk : ∀ t r, (k t r).le (k' t r)) : (x.one k).le (y.one k') := by
  rcases h with h | h
  · subst h; exact .inl rfl
  · subst h
    unfold R.one
    split
    · exact .inl rfl
    · exact .inr rfl
    · exact hk _ _
    · exact .inr rfl
theorem duo_le {x y : R} {k k' : Nd → Nd → List Str → R} (h : x.le y) (hk : ∀ t u r, (k t u r).le (k' t u r)) : (x.duo k).le (y.duo k') := by
  rcases h with h | h
  · subst h; exact .inl rfl
  · subst h
    unfold R.duo
    split
    · exact .inl rfl
    · exact .inr rfl
    · exact hk _ _ _
    · exact .inr rfl
theorem exp_le {w : Str} {ts : List Str} {k k' : List Str → R} (hk : ∀ r, (k r).le (k' r)) : (exp w ts k).le (exp w ts k') := by
  unfold exp
  split
  · split
    · exact hk _
    · exact .inr rfl
  · exact .inr rfl
theorem beg_le {w : Str} {lv : Nat} {ts : List Str} {k k' : List Str → R} (hk : ∀ r, (k r).le (k' r)) : (beg w lv ts k).le (beg w lv ts k') := exp_le fun r => by
  split
  · exact .inr rfl
  · exact hk _
theorem nam_le {ts : List Str} {k k' : Str → List Str → R} (hk : ∀ s r, (k s r).le (k' s r)) : (nam ts k).le (nam ts k') := by
  unfold nam
  split
  · split
    · exact hk _ _
    · exact .inr rfl
  · exact .inr rfl
theorem digs_le {ts : List Str} {k k' : Nat → List Str → R} (hk : ∀ s r, (k s r).le (k' s r)) : (digs ts k).le (digs ts k') := by
  unfold digs
  split
  · split
    · exact hk _ _
    · exact .inr rfl
  · exact .inr rfl
theorem nums_le {ts : List Str} {k k' : Int → List Str → R} (hk : ∀ s r, (k s r).le (k' s r)) : (nums ts k).le (nums ts k') := by
  unfold nums
  split
  · split
    · exact digs_le fun _ _ => hk _ _
    · exact digs_le fun _ _ => hk _ _
  · exact .inr rfl
theorem step_le {P P' : Kd → Nat → List Str → R} (h : ∀ kd lv ts, (P kd lv ts).le (P' kd lv ts)) (kd : Kd) (lv : Nat) (ts : List Str) : (step P kd lv ts).le (step P' kd lv ts) := by
  cases kd <;> simp only [step] <;> repeat (first
    | exact le_refl _
    | exact h _ _ _
    | exact hk _ _
    | refine one_le (h _ _ _) fun t r => ?_
    | refine duo_le (h _ _ _) fun t u r => ?_
    | refine exp_le fun r => ?_
    | refine beg_le fun r => ?_
    | refine nam_le fun s r => ?_
    | refine nums_le fun s r => ?_
    | split)
theorem P_le (f : Nat) : ∀ (kd : Kd) (lv : Nat) (ts : List Str), (P f kd lv ts).le (P (f + 1) kd lv ts) := by
  induction f with
  | zero => intro kd lv ts; exact .inl rfl
  | succ f ih => intro kd lv ts; exact step_le ih kd lv ts
theorem P_mono {f g : Nat} (h : f ≤ g) {kd : Kd} {lv : Nat} {ts : List Str} (hn : P f kd lv ts ≠ .out) : P g kd lv ts = P f kd lv ts := by
  obtain ⟨d, rfl⟩ := Nat.exists_eq_add_of_le h
  induction d with
  | zero => rfl
  | succ d ih =>
    have ih' := ih (by omega)
    rcases P_le (f + d) kd lv ts with e | e
    · exact absurd (ih'.symm.trans e) hn
    · exact e.symm.trans ih'
end KM

namespace KM
open PySem

/-! ### well made nodes: true a term, false a condition -/
def wk : Bool → Nd → Prop
  | true, .day x => isName x = true
  | true, .num n => -1000000 ≤ n ∧ n ≤ 1000000
  | true, .plus t n => wk true t ∧ -1000000 ≤ n ∧ n ≤ 1000000
  | true, .near _ k t => isName k = true ∧ wk true t
  | true, .nth k t n => isName k = true ∧ wk true t ∧ n ≠ 0 ∧ -6 ≤ n ∧ n ≤ 6
  | true, .pick _ t u => wk true t ∧ wk true u
  | true, .ite c t u => wk false c ∧ wk true t ∧ wk true u
  | false, .le t u => wk true t ∧ wk true u
  | false, .isO k t => isName k = true ∧ wk true t
  | false, .flag x => isName x = true
  | false, .yes => True
  | false, .neg c => wk false c
  | false, .conj c d => wk false c ∧ wk false d
  | false, .disj c d => wk false c ∧ wk false d
  | _, _ => False

/-! ### weights of rows of tokens -/
def wsum (g : Str → Nat) : List Str → Nat
  | [] => 0
  | s :: r => g s + wsum g r
theorem wsum_app (g : Str → Nat) : ∀ a b : List Str, wsum g (a ++ b) = wsum g a + wsum g b
  | [], b => by show wsum g b = 0 + wsum g b; omega
  | s :: a, b => by
    show g s + wsum g (a ++ b) = g s + wsum g a + wsum g b
    rw [wsum_app g a b]; omega
def eqw (s : Str) : Nat := if s = "=" then 1 else 0
abbrev eqs (ts : List Str) : Nat := wsum eqw ts
/-- the most that a part of so many tokens makes -/
def B (c : List Str) : Nat := 2 ^ eqs c * (2 * c.length)
theorem B_cons (s : Str) (c : List Str) : B c + 2 ≤ B (s :: c) := by
  unfold B
  have h1 : 2 ^ eqs c ≤ 2 ^ eqs (s :: c) := Nat.pow_le_pow_right (by decide) (by show eqs c ≤ eqw s + eqs c; omega)
  have h2 : 1 ≤ 2 ^ eqs (s :: c) := Nat.one_le_two_pow
  have h3 := Nat.mul_le_mul_right (2 * c.length) h1
  have h4 : 2 ^ eqs (s :: c) * (2 * (s :: c).length) = 2 ^ eqs (s :: c) * (2 * c.length) + 2 ^ eqs (s :: c) * 2 := by
    rw [List.length_cons, ← Nat.mul_add]; congr 1
  omega
theorem B_app (a b : List Str) : B a + B b ≤ B (a ++ b) := by
  unfold B
  have e : eqs (a ++ b) = eqs a + eqs b := wsum_app _ a b
  have h1 : 2 ^ eqs a ≤ 2 ^ eqs (a ++ b) := Nat.pow_le_pow_right (by decide) (by omega)
  have h2 : 2 ^ eqs b ≤ 2 ^ eqs (a ++ b) := Nat.pow_le_pow_right (by decide) (by omega)
  have h3 := Nat.mul_le_mul_right (2 * a.length) h1
  have h4 := Nat.mul_le_mul_right (2 * b.length) h2
  have h5 : 2 ^ eqs (a ++ b) * (2 * (a ++ b).length) = 2 ^ eqs (a ++ b) * (2 * a.length) + 2 ^ eqs (a ++ b) * (2 * b.length) := by
    rw [List.length_append, ← Nat.mul_add]; congr 1; omega
  omega
theorem B_eq (a b : List Str) : 2 * B a + 2 * B b + 4 ≤ B (a ++ ("=" : Str) :: b) := by
  unfold B
  have e : eqs (a ++ ("=" : Str) :: b) = eqs a + eqs b + 1 := by
    have q : eqs (("=" : Str) :: b) = eqw ("=" : Str) + eqs b := rfl
    have z : eqw ("=" : Str) = 1 := if_pos rfl
    have y : eqs (a ++ ("=" : Str) :: b) = eqs a + eqs (("=" : Str) :: b) := wsum_app _ a _
    omega
  have h1 : 2 ^ (eqs a + 1) ≤ 2 ^ eqs (a ++ ("=" : Str) :: b) := Nat.pow_le_pow_right (by decide) (by omega)
  have h2 : 2 ^ (eqs b + 1) ≤ 2 ^ eqs (a ++ ("=" : Str) :: b) := Nat.pow_le_pow_right (by decide) (by omega)
  have h0 : 2 ^ 1 ≤ 2 ^ eqs (a ++ ("=" : Str) :: b) := Nat.pow_le_pow_right (by decide) (by omega)
  rw [Nat.pow_succ] at h1 h2
  have h3 := Nat.mul_le_mul_right (2 * a.length) h1
  have h4 := Nat.mul_le_mul_right (2 * b.length) h2
  have h5 : 2 ^ eqs (a ++ ("=" : Str) :: b) * (2 * (a ++ ("=" : Str) :: b).length) = 2 ^ eqs (a ++ ("=" : Str) :: b) * (2 * a.length) + 2 ^ eqs (a ++ ("=" : Str) :: b) * (2 * b.length) + 2 ^ eqs (a ++ ("=" : Str) :: b) * 2 := by
    rw [List.length_append, List.length_cons, ← Nat.mul_add, ← Nat.mul_add]; congr 1; omega
  have h6 : 2 ^ eqs a * 2 * (2 * a.length) = 2 * (2 ^ eqs a * (2 * a.length)) := by
    rw [Nat.mul_comm (2 ^ eqs a) 2, Nat.mul_assoc]
  have h7 : 2 ^ eqs b * 2 * (2 * b.length) = 2 * (2 ^ eqs b * (2 * b.length)) := by
    rw [Nat.mul_comm (2 ^ eqs b) 2, Nat.mul_assoc]
  omega

/-! ### what an answer tells -/
def Post (x : R) (F : List Nd → List Str → Prop) : Prop := ∀ ns r, x = .ok ns r → F ns r
theorem post_ok {ns : List Nd} {r : List Str} {F : List Nd → List Str → Prop} (h : F ns r) : Post (.ok ns r) F := fun ns' r' e => by cases e; exact h
theorem post_bad {F : List Nd → List Str → Prop} : Post .bad F := fun _ _ e => by cases e
theorem post_one {x : R} {k : Nd → List Str → R} {F : List Nd → List Str → Prop} (h : Post x fun ns r => ∀ t, ns = [t] → Post (k t r) F) : Post (x.one k) F := by
  unfold R.one
  split
  · exact fun _ _ e => by cases e
  · exact post_bad
  · exact h _ _ rfl _ rfl
  · exact post_bad
theorem post_duo {x : R} {k : Nd → Nd → List Str → R} {F : List Nd → List Str → Prop} (h : Post x fun ns r => ∀ t u, ns = [t, u] → Post (k t u r) F) : Post (x.duo k) F := by
  unfold R.duo
  split
  · exact fun _ _ e => by cases e
  · exact post_bad
  · exact h _ _ rfl _ _ rfl
  · exact post_bad
theorem post_exp {w : Str} {ts : List Str} {k : List Str → R} {F : List Nd → List Str → Prop} (h : ∀ r, ts = w :: r → Post (k r) F) : Post (exp w ts k) F := by
  unfold exp
  split
  · split
    · rename_i e; subst e; exact h _ rfl
    · exact post_bad
  · exact post_bad
theorem post_beg {w : Str} {lv : Nat} {ts : List Str} {k : List Str → R} {F : List Nd → List Str → Prop} (h : ∀ r, ts = w :: r → Post (k r) F) : Post (beg w lv ts k) F := post_exp fun r e => by
  split
  · exact post_bad
  · exact h r e
theorem post_nam {ts : List Str} {k : Str → List Str → R} {F : List Nd → List Str → Prop} (h : ∀ s r, ts = s :: r → isName s = true → Post (k s r) F) : Post (nam ts k) F := by
  unfold nam
  split
  · split
    · rename_i e; exact h _ _ rfl e
    · exact post_bad
  · exact post_bad
theorem post_digs {ts : List Str} {k : Nat → List Str → R} {F : List Nd → List Str → Prop} (h : ∀ s n r, ts = s :: r → digOk s = some n → Post (k n r) F) : Post (digs ts k) F := by
  unfold digs
  split
  · split
    · rename_i e; exact h _ _ _ rfl e
    · exact post_bad
  · exact post_bad
/-- the tokens of a number -/
def NumT (ts c : List Str) (n : Int) : Prop := ∃ (d : Str) (m : Nat), digOk d = some m ∧ ((c = [d] ∧ n = (m : Int)) ∨ (c = [("-" : Str), d] ∧ n = -(m : Int)))
theorem post_nums {ts : List Str} {k : Int → List Str → R} {F : List Nd → List Str → Prop} (h : ∀ c n r, ts = c ++ r → NumT ts c n → Post (k n r) F) : Post (nums ts k) F := by
  unfold nums
  split
  · split
    · rename_i e
      subst e
      refine post_digs fun s n r e1 e2 => h [("-" : Str), s] _ r (by rw [e1]; rfl) ⟨s, n, e2, .inr ⟨rfl, rfl⟩⟩
    · refine post_digs fun s n r e1 e2 => h [s] _ r (by rw [e1]; rfl) ⟨s, n, e2, .inl ⟨rfl, rfl⟩⟩
  · exact post_bad

/-! ### a token that no part takes -/
def lits : List Str := ["(", ")", ",", "+", "-", "@", "next", "prev", "open", "later", "earlier", "if", "or", "and", "not", "yes", "?", "is", "[", "]", "<=", "<", "="]
structure NoTok (b : Str) : Prop where
  nm : isName b = false
  dg : digOk b = none
  lt : b ∉ lits
theorem NoTok.ne {b : Str} (h : NoTok b) {s : Str} (hs : s ∈ lits) : b ≠ s := fun e => h.lt (e ▸ hs)
theorem NoTok.nn {b : Str} (h : NoTok b) {s : Str} (hs : isName s = true) : b ≠ s := fun e => by rw [← e, h.nm] at hs; cases hs
theorem NoTok.nd {b : Str} (h : NoTok b) {s : Str} {n : Nat} (hs : digOk s = some n) : b ≠ s := fun e => by rw [← e, h.dg] at hs; cases hs
theorem no_nil {b : Str} : b ∉ ([] : List Str) := by simp
theorem no_cons {b s : Str} {c : List Str} (h : b ≠ s) (hc : b ∉ c) : b ∉ s :: c := by simp [h, hc]
theorem no_app {b : Str} {c d : List Str} (h : b ∉ c) (hc : b ∉ d) : b ∉ c ++ d := by simp [h, hc]
theorem NumT.no {b : Str} (hb : NoTok b) {ts c : List Str} {n : Int} (h : NumT ts c n) : b ∉ c := by
  obtain ⟨d, m, hd, ⟨rfl, _⟩ | ⟨rfl, _⟩⟩ := h
  · exact no_cons (hb.nd hd) no_nil
  · exact no_cons (hb.ne (by simp [lits])) (no_cons (hb.nd hd) no_nil)
theorem NumT.rg {ts c : List Str} {n : Int} (h : NumT ts c n) : -1000000 ≤ n ∧ n ≤ 1000000 := by
  obtain ⟨d, m, hd, ⟨_, rfl⟩ | ⟨_, rfl⟩⟩ := h <;> have := digOk_le hd <;> omega

/-- one node of the kind -/
def One (b : Str) (k : Bool) (ts : List Str) (ns : List Nd) (r : List Str) : Prop := ∃ c t, ts = c ++ r ∧ b ∉ c ∧ ns = [t] ∧ wk k t ∧ size t ≤ B c
def Two (b : Str) (ts : List Str) (ns : List Nd) (r : List Str) : Prop := ∃ c t u, ts = c ++ r ∧ b ∉ c ∧ ns = [t, u] ∧ wk true t ∧ wk true u ∧ size t + size u + 1 ≤ B c
def On (b : Str) (k : Bool) (c0 : Nd) (ts : List Str) (ns : List Nd) (r : List Str) : Prop := wk k c0 → ∃ c t, ts = c ++ r ∧ b ∉ c ∧ ns = [t] ∧ wk k t ∧ size t ≤ size c0 + B c
def G (b : Str) (ts : List Str) : Kd → List Nd → List Str → Prop
  | .term => One b true ts | .inner => One b true ts | .atom => One b true ts
  | .two => Two b ts
  | .cond => One b false ts | .both => One b false ts | .unit => One b false ts | .comp => One b false ts
  | .ors c => On b false c ts | .ands c => On b false c ts
theorem adds_post {b : Str} (hb : NoTok b) : ∀ (n : Nat) (ts : List Str), ts.length ≤ n → ∀ t, Post (adds t ts) (On b true t ts)
  | n, [], _, t => post_ok fun h => ⟨[], t, rfl, no_nil, rfl, h, by omega⟩
  | n, [s], _, t => by
    unfold adds
    split
    · exact post_bad
    · exact post_ok fun h => ⟨[], t, rfl, no_nil, rfl, h, by omega⟩
  | 0, s :: d :: r, h, t => by simp at h
  | n + 1, s :: d :: r, hl, t => by
    unfold adds
    split
    · rename_i hs
      split
      · rename_i m hd
        intro ns q e h
        have hm := digOk_le hd
        obtain ⟨c, t', e1, h1, e2, h2, h3⟩ := adds_post hb n r (by simp only [List.length_cons] at hl; omega) _ ns q e ⟨h, by split <;> omega⟩
        refine ⟨s :: d :: c, t', by rw [e1]; rfl, no_cons ?_ (no_cons (hb.nd hd) h1), e2, h2, ?_⟩
        · rcases hs with rfl | rfl <;> exact hb.ne (by simp [lits])
        · have a1 := B_cons d c
          have a2 := B_cons s (d :: c)
          simp only [size] at h3
          omega
      · exact post_bad
    · exact post_ok fun h => ⟨[], t, rfl, no_nil, rfl, h, by omega⟩

def AllG (b : Str) (Q : Kd → Nat → List Str → R) : Prop := ∀ kd lv ts, Post (Q kd lv ts) (G b ts kd)
theorem step_post {b : Str} (hb : NoTok b) {Q : Kd → Nat → List Str → R} (h : AllG b Q) : AllG b (step Q) := by
  have L : ∀ s : Str, s ∈ lits → b ≠ s := fun s hs => hb.ne hs
  intro kd lv ts
  cases kd with
  | term =>
    simp only [step]
    refine post_one fun ns r e => ?_
    obtain ⟨c, t, e1, h1, e2, h2, h3⟩ := h .atom lv ts ns r e
    intro t' et
    rw [e2] at et
    obtain rfl : t = t' := by injection et
    intro ns2 r2 e'
    obtain ⟨c2, t2, f1, g1, f2, g2, g3⟩ := adds_post hb r.length r (Nat.le_refl _) t ns2 r2 e' h2
    have b1 := B_app c c2
    exact ⟨c ++ c2, t2, by rw [e1, f1, List.append_assoc], no_app h1 g1, f2, g2, by omega⟩
  | inner =>
    simp only [step]
    refine post_beg fun r0 e0 => post_one fun ns r e => ?_
    obtain ⟨c, t, e1, h1, e2, h2, h3⟩ := h .term _ _ ns r e
    intro t' et
    rw [e2] at et
    obtain rfl : t = t' := by injection et
    refine post_exp fun r2 e3 => post_ok ?_
    have b1 := B_app c [(")" : Str)]
    have b2 := B_cons "(" (c ++ [(")" : Str)])
    exact ⟨"(" :: (c ++ [(")" : Str)]), t, by rw [e0, e1, e3]; simp, no_cons (L _ (by simp [lits])) (no_app h1 (no_cons (L _ (by simp [lits])) no_nil)), rfl, h2, by omega⟩
  | two =>
    simp only [step]
    refine post_one fun ns r e => ?_
    obtain ⟨c, t, e1, h1, e2, h2, h3⟩ := h .term _ _ ns r e
    intro t' et
    rw [e2] at et
    obtain rfl : t = t' := by injection et
    refine post_exp fun r2 e3 => post_one fun ns2 r3 e => ?_
    obtain ⟨d, u, f1, g1, f2, g2, g3⟩ := h .term _ _ ns2 r3 e
    intro u' et
    rw [f2] at et
    obtain rfl : u = u' := by injection et
    refine post_exp fun r4 e5 => post_ok ?_
    have b1 := B_app c (("," : Str) :: (d ++ [(")" : Str)]))
    have b2 := B_cons "," (d ++ [(")" : Str)])
    have b3 := B_app d [(")" : Str)]
    exact ⟨c ++ ("," : Str) :: (d ++ [(")" : Str)]), t, u, by rw [e1, e3, f1, e5]; simp, no_app h1 (no_cons (L _ (by simp [lits])) (no_app g1 (no_cons (L _ (by simp [lits])) no_nil))), rfl, h2, g2, by omega⟩
  | atom =>
    simp only [step]
    split
    · exact post_bad
    · rename_i s r
      split
      · exact h .inner lv (s :: r)
      · split
        · rename_i hs; subst hs
          refine post_nums fun c n q e hn => post_ok ?_
          have b1 := B_cons "@" c
          exact ⟨("@" : Str) :: c, .num n, by rw [e]; rfl, no_cons (L _ (by simp [lits])) (hn.no hb), rfl, hn.rg, by simp only [size]; omega⟩
        · split
          · rename_i hs
            refine post_nam fun k q e hk => post_one fun ns r2 e' => ?_
            obtain ⟨c, t, e1, h1, e2, h2, h3⟩ := h .inner _ _ ns r2 e'
            intro t' et
            rw [e2] at et
            obtain rfl : t = t' := by injection et
            refine post_ok ?_
            have b1 := B_cons s (k :: c)
            have b2 := B_cons k c
            exact ⟨s :: k :: c, .near (decide (s = "next")) k t, by rw [e, e1]; rfl, no_cons (by rcases hs with rfl | rfl <;> exact L _ (by simp [lits])) (no_cons (hb.nn hk) h1), rfl, ⟨hk, h2⟩, by simp only [size]; omega⟩
          · split
            · rename_i hs; subst hs
              refine post_nam fun k q e hk => post_nums fun c0 n q2 e0 hn => ?_
              split
              · exact post_bad
              · rename_i hr
                refine post_one fun ns r2 e' => ?_
                obtain ⟨c, t, e1, h1, e2, h2, h3⟩ := h .inner _ _ ns r2 e'
                intro t' et
                rw [e2] at et
                obtain rfl : t = t' := by injection et
                refine post_ok ?_
                have b1 := B_cons "open" (k :: (c0 ++ c))
                have b2 := B_cons k (c0 ++ c)
                have b3 := B_app c0 c
                exact ⟨("open" : Str) :: k :: (c0 ++ c), .nth k t n, by rw [e, e0, e1]; simp, no_cons (L _ (by simp [lits])) (no_cons (hb.nn hk) (no_app (hn.no hb) h1)), rfl, ⟨hk, h2, by omega, by omega, by omega⟩, by simp only [size]; omega⟩
            · split
              · rename_i hs
                refine post_beg fun r0 e0 => post_duo fun ns r2 e' => ?_
                obtain ⟨c, t, u, e1, h1, e2, h2, g2, h3⟩ := h .two _ _ ns r2 e'
                intro t' u' et
                rw [e2] at et
                injection et with et1 et2
                injection et2 with et3
                subst et1 et3
                refine post_ok ?_
                have b1 := B_cons s (("(" : Str) :: c)
                have b2 := B_cons "(" c
                exact ⟨s :: ("(" : Str) :: c, .pick (decide (s = "later")) t u, by rw [e0, e1]; rfl, no_cons (by rcases hs with rfl | rfl <;> exact L _ (by simp [lits])) (no_cons (L _ (by simp [lits])) h1), rfl, ⟨h2, g2⟩, by simp only [size]; omega⟩
              · split
                · rename_i hs; subst hs
                  refine post_beg fun r0 e0 => post_one fun ns r2 e' => ?_
                  obtain ⟨c, t, e1, h1, e2, h2, h3⟩ := h .cond _ _ ns r2 e'
                  intro t' et
                  rw [e2] at et
                  obtain rfl : t = t' := by injection et
                  refine post_exp fun r3 e3 => post_duo fun ns3 r4 e4 => ?_
                  obtain ⟨d, u, v, f1, g1, f2, g2, g4, g3⟩ := h .two _ _ ns3 r4 e4
                  intro u' v' et
                  rw [f2] at et
                  injection et with et1 et2
                  injection et2 with et3
                  subst et1 et3
                  refine post_ok ?_
                  have b1 := B_cons "if" (("(" : Str) :: (c ++ ("," : Str) :: d))
                  have b2 := B_cons "(" (c ++ ("," : Str) :: d)
                  have b3 := B_app c (("," : Str) :: d)
                  have b4 := B_cons "," d
                  exact ⟨("if" : Str) :: ("(" : Str) :: (c ++ ("," : Str) :: d), .ite t u v, by rw [e0, e1, e3, f1]; simp, no_cons (L _ (by simp [lits])) (no_cons (L _ (by simp [lits])) (no_app h1 (no_cons (L _ (by simp [lits])) g1))), rfl, ⟨h2, g2, g4⟩, by simp only [size]; omega⟩
                · split
                  · rename_i hn
                    have b1 := B_cons s []
                    exact post_ok ⟨[s], .day s, rfl, no_cons (hb.nn hn) no_nil, rfl, hn, by simp only [size]; omega⟩
                  · exact post_bad
  | cond =>
    simp only [step]
    refine post_one fun ns r e => ?_
    obtain ⟨c, t, e1, h1, e2, h2, h3⟩ := h .both lv ts ns r e
    intro t' et
    rw [e2] at et
    obtain rfl : t = t' := by injection et
    intro ns2 r2 e'
    obtain ⟨c2, t2, f1, g1, f2, g2, g3⟩ := h (.ors t) lv r ns2 r2 e' h2
    have b1 := B_app c c2
    exact ⟨c ++ c2, t2, by rw [e1, f1, List.append_assoc], no_app h1 g1, f2, g2, by omega⟩
  | both =>
    simp only [step]
    refine post_one fun ns r e => ?_
    obtain ⟨c, t, e1, h1, e2, h2, h3⟩ := h .unit lv ts ns r e
    intro t' et
    rw [e2] at et
    obtain rfl : t = t' := by injection et
    intro ns2 r2 e'
    obtain ⟨c2, t2, f1, g1, f2, g2, g3⟩ := h (.ands t) lv r ns2 r2 e' h2
    have b1 := B_app c c2
    exact ⟨c ++ c2, t2, by rw [e1, f1, List.append_assoc], no_app h1 g1, f2, g2, by omega⟩
  | ors c0 =>
    simp only [step]
    split
    · exact post_ok fun hw => ⟨[], c0, rfl, no_nil, rfl, hw, by omega⟩
    · rename_i s r
      split
      · rename_i hs; subst hs
        refine post_one fun ns r2 e => ?_
        obtain ⟨c, t, e1, h1, e2, h2, h3⟩ := h .both lv r ns r2 e
        intro t' et
        rw [e2] at et
        obtain rfl : t = t' := by injection et
        intro ns2 r3 e' hw
        obtain ⟨c2, t2, f1, g1, f2, g2, g3⟩ := h (.ors (.disj c0 t)) lv r2 ns2 r3 e' ⟨hw, h2⟩
        have b1 := B_cons "or" (c ++ c2)
        have b2 := B_app c c2
        simp only [size] at g3
        exact ⟨("or" : Str) :: (c ++ c2), t2, by rw [e1, f1]; simp, no_cons (L _ (by simp [lits])) (no_app h1 g1), f2, g2, by omega⟩
      · exact post_ok fun hw => ⟨[], c0, rfl, no_nil, rfl, hw, by omega⟩
  | ands c0 =>
    simp only [step]
    split
    · exact post_ok fun hw => ⟨[], c0, rfl, no_nil, rfl, hw, by omega⟩
    · rename_i s r
      split
      · rename_i hs; subst hs
        refine post_one fun ns r2 e => ?_
        obtain ⟨c, t, e1, h1, e2, h2, h3⟩ := h .unit lv r ns r2 e
        intro t' et
        rw [e2] at et
        obtain rfl : t = t' := by injection et
        intro ns2 r3 e' hw
        obtain ⟨c2, t2, f1, g1, f2, g2, g3⟩ := h (.ands (.conj c0 t)) lv r2 ns2 r3 e' ⟨hw, h2⟩
        have b1 := B_cons "and" (c ++ c2)
        have b2 := B_app c c2
        simp only [size] at g3
        exact ⟨("and" : Str) :: (c ++ c2), t2, by rw [e1, f1]; simp, no_cons (L _ (by simp [lits])) (no_app h1 g1), f2, g2, by omega⟩
      · exact post_ok fun hw => ⟨[], c0, rfl, no_nil, rfl, hw, by omega⟩
  | unit =>
    simp only [step]
    split
    · exact h .comp lv []
    · rename_i s r
      split
      · rename_i hs; subst hs
        split
        · exact post_bad
        · refine post_one fun ns r2 e => ?_
          obtain ⟨c, t, e1, h1, e2, h2, h3⟩ := h .unit _ _ ns r2 e
          intro t' et
          rw [e2] at et
          obtain rfl : t = t' := by injection et
          have b1 := B_cons "not" c
          exact post_ok ⟨("not" : Str) :: c, .neg t, by rw [e1]; rfl, no_cons (L _ (by simp [lits])) h1, rfl, h2, by simp only [size]; omega⟩
      · split
        · rename_i hs; subst hs
          have b1 := B_cons "yes" []
          exact post_ok ⟨[("yes" : Str)], .yes, rfl, no_cons (L _ (by simp [lits])) no_nil, rfl, trivial, by simp only [size]; omega⟩
        · split
          · rename_i hs; subst hs
            refine post_nam fun k q e hk => post_ok ?_
            have b1 := B_cons "?" [k]
            exact ⟨[("?" : Str), k], .flag k, by rw [e]; rfl, no_cons (L _ (by simp [lits])) (no_cons (hb.nn hk) no_nil), rfl, hk, by simp only [size]; omega⟩
          · split
            · rename_i hs; subst hs
              refine post_nam fun k q e hk => post_one fun ns r2 e' => ?_
              obtain ⟨c, t, e1, h1, e2, h2, h3⟩ := h .inner _ _ ns r2 e'
              intro t' et
              rw [e2] at et
              obtain rfl : t = t' := by injection et
              have b1 := B_cons "is" (k :: c)
              have b2 := B_cons k c
              exact post_ok ⟨("is" : Str) :: k :: c, .isO k t, by rw [e, e1]; rfl, no_cons (L _ (by simp [lits])) (no_cons (hb.nn hk) h1), rfl, ⟨hk, h2⟩, by simp only [size]; omega⟩
            · split
              · rename_i hs; subst hs
                split
                · exact post_bad
                · refine post_one fun ns r2 e => ?_
                  obtain ⟨c, t, e1, h1, e2, h2, h3⟩ := h .cond _ _ ns r2 e
                  intro t' et
                  rw [e2] at et
                  obtain rfl : t = t' := by injection et
                  refine post_exp fun r3 e3 => post_ok ?_
                  have b1 := B_cons "[" (c ++ [("]" : Str)])
                  have b2 := B_app c [("]" : Str)]
                  exact ⟨("[" : Str) :: (c ++ [("]" : Str)]), t, by rw [e1, e3]; simp, no_cons (L _ (by simp [lits])) (no_app h1 (no_cons (L _ (by simp [lits])) no_nil)), rfl, h2, by omega⟩
              · exact h .comp lv (s :: r)
  | comp =>
    simp only [step]
    refine post_one fun ns r e => ?_
    obtain ⟨c, t, e1, h1, e2, h2, h3⟩ := h .term _ _ ns r e
    intro t' et
    rw [e2] at et
    obtain rfl : t = t' := by injection et
    split
    · exact post_bad
    · rename_i s r0
      split
      · rename_i hs
        refine post_one fun ns2 r3 e' => ?_
        obtain ⟨d, u, f1, g1, f2, g2, g3⟩ := h .term _ _ ns2 r3 e'
        intro u' et
        rw [f2] at et
        obtain rfl : u = u' := by injection et
        refine post_ok ?_
        have b1 := B_app c (s :: d)
        have b2 := B_cons s d
        have bs : b ≠ s := by rcases hs with rfl | rfl | rfl <;> exact L _ (by simp [lits])
        refine ⟨c ++ s :: d, relN s t u, by rw [e1, f1]; simp, no_app h1 (no_cons bs g1), rfl, ?_, ?_⟩
        · unfold relN
          split
          · exact ⟨⟨h2, by omega, by omega⟩, g2⟩
          · split
            · exact ⟨⟨h2, g2⟩, g2, h2⟩
            · exact ⟨h2, g2⟩
        · unfold relN
          split
          · simp only [size]; omega
          · split
            · rename_i hq; subst hq
              have b3 := B_eq c d
              simp only [size]; omega
            · simp only [size]; omega
      · exact post_bad
theorem P_post {b : Str} (hb : NoTok b) : ∀ f, AllG b (P f)
  | 0 => fun _ _ _ _ _ e => by cases e
  | f + 1 => step_post hb (P_post hb f)
end KM

namespace KM
open PySem

/-! ### fuel enough -/
def wtk (s : Str) : Nat := if s = "(" ∨ s = "[" ∨ s = "not" then 6 else if s = "or" ∨ s = "and" then 1 else 0
def opk (s : Str) : Nat := if s = "(" ∨ s = "[" ∨ s = "not" then 1 else 0
def aok (s : Str) : Nat := if s = "or" ∨ s = "and" then 1 else 0
abbrev wts (ts : List Str) : Nat := wsum wtk ts
abbrev opc (ts : List Str) : Nat := wsum opk ts
abbrev aoc (ts : List Str) : Nat := wsum aok ts
theorem wts_cons (s : Str) (r : List Str) : wts (s :: r) = wtk s + wts r := rfl
theorem opc_cons (s : Str) (r : List Str) : opc (s :: r) = opk s + opc r := rfl
theorem aoc_cons (s : Str) (r : List Str) : aoc (s :: r) = aok s + aoc r := rfl
theorem wts_app (a b : List Str) : wts (a ++ b) = wts a + wts b := wsum_app _ a b
theorem opc_app (a b : List Str) : opc (a ++ b) = opc a + opc b := wsum_app _ a b
theorem aoc_app (a b : List Str) : aoc (a ++ b) = aoc a + aoc b := wsum_app _ a b
theorem op_p : opk "(" = 1 := if_pos (.inl rfl)
theorem op_b : opk "[" = 1 := if_pos (.inr (.inl rfl))
theorem op_n : opk "not" = 1 := if_pos (.inr (.inr rfl))
theorem wt_p : wtk "(" = 6 := if_pos (.inl rfl)
theorem wt_b : wtk "[" = 6 := if_pos (.inr (.inl rfl))
theorem wt_n : wtk "not" = 6 := if_pos (.inr (.inr rfl))
theorem wt_o : wtk "or" = 1 := by decide +kernel
theorem wt_a : wtk "and" = 1 := by decide +kernel
theorem ao_o : aok "or" = 1 := if_pos (.inl rfl)
theorem ao_a : aok "and" = 1 := if_pos (.inr rfl)
theorem no1a : NoTok "1a" := ⟨by decide +kernel, by decide +kernel, by decide +kernel⟩
def Kd.ext : Kd → Prop
  | .ors _ => False
  | .ands _ => False
  | _ => True
theorem suf1 {f : Nat} {kd : Kd} {lv : Nat} {ts r : List Str} {ns : List Nd} (e : P f kd lv ts = .ok ns r) (hk : kd.ext) : ∃ c, ts = c ++ r := by
  have h := P_post no1a f kd lv ts ns r e
  cases kd with
  | ors c => exact hk.elim
  | ands c => exact hk.elim
  | two => obtain ⟨c, _, _, e, _⟩ := h; exact ⟨c, e⟩
  | _ => obtain ⟨c, _, e, _⟩ := h; exact ⟨c, e⟩
def cc : Kd → Nat
  | .inner => 1 | .atom => 2 | .term => 3 | .comp => 4 | .two => 4 | .unit => 5 | .ands _ => 5 | .both => 6 | .ors _ => 6 | .cond => 7
theorem ne_one {x : R} {k : Nd → List Str → R} (h : x ≠ .out) (hk : ∀ t r, x = .ok [t] r → k t r ≠ .out) : x.one k ≠ .out := by
  unfold R.one
  split
  · exact absurd rfl h
  · exact fun e => by cases e
  · exact hk _ _ rfl
  · exact fun e => by cases e
theorem ne_duo {x : R} {k : Nd → Nd → List Str → R} (h : x ≠ .out) (hk : ∀ t u r, x = .ok [t, u] r → k t u r ≠ .out) : x.duo k ≠ .out := by
  unfold R.duo
  split
  · exact absurd rfl h
  · exact fun e => by cases e
  · exact hk _ _ _ rfl
  · exact fun e => by cases e
theorem ne_bad : R.bad ≠ .out := fun e => by cases e
theorem ne_ok {ns : List Nd} {r : List Str} : R.ok ns r ≠ .out := fun e => by cases e
theorem ne_exp {w : Str} {ts : List Str} {k : List Str → R} (hk : ∀ r, ts = w :: r → k r ≠ .out) : exp w ts k ≠ .out := by
  unfold exp
  split
  · split
    · rename_i e; subst e; exact hk _ rfl
    · exact ne_bad
  · exact ne_bad
theorem ne_beg {w : Str} {lv : Nat} {ts : List Str} {k : List Str → R} (hk : ∀ r, ts = w :: r → k r ≠ .out) : beg w lv ts k ≠ .out := ne_exp fun r e => by
  split
  · exact ne_bad
  · exact hk r e
theorem ne_nam {ts : List Str} {k : Str → List Str → R} (hk : ∀ s r, ts = s :: r → k s r ≠ .out) : nam ts k ≠ .out := by
  unfold nam
  split
  · split
    · exact hk _ _ rfl
    · exact ne_bad
  · exact ne_bad
theorem ne_nums {ts : List Str} {k : Int → List Str → R} (hk : ∀ c n r, ts = c ++ r → k n r ≠ .out) : nums ts k ≠ .out := by
  unfold nums
  split
  · rename_i s r
    split
    · unfold digs
      split
      · rename_i d q
        split
        · exact hk [s, d] _ _ rfl
        · exact ne_bad
      · exact ne_bad
    · unfold digs
      split
      · rename_i d q e
        split
        · injection e with e1 e2
          subst e1 e2
          exact hk [s] _ _ rfl
        · exact ne_bad
      · exact ne_bad
  · exact ne_bad
theorem ne_adds : ∀ (n : Nat) (ts : List Str), ts.length ≤ n → ∀ t, adds t ts ≠ .out
  | n, [], _, t => ne_ok
  | n, [s], _, t => by
    unfold adds
    split
    · exact ne_bad
    · exact ne_ok
  | 0, s :: d :: r, h, t => by simp at h
  | n + 1, s :: d :: r, hl, t => by
    unfold adds
    split
    · split
      · exact ne_adds n r (by simp only [List.length_cons] at hl; omega) _
      · exact ne_bad
    · exact ne_ok
theorem P_ne (f : Nat) : ∀ (kd : Kd) (lv : Nat) (ts : List Str), wts ts + cc kd ≤ f → P f kd lv ts ≠ .out := by
  induction f with
  | zero => intro kd lv ts h; exfalso; cases kd <;> simp only [cc] at h <;> omega
  | succ f ih =>
    intro kd lv ts h
    show step (P f) kd lv ts ≠ .out
    have key : ∀ {kd : Kd} {lv : Nat} {ts : List Str} {ns : List Nd} {r : List Str}, P f kd lv ts = .ok ns r → kd.ext → wts r ≤ wts ts := fun e hk => by
      obtain ⟨c, rfl⟩ := suf1 e hk
      rw [wts_app]; omega
    cases kd with
    | term =>
      simp only [step, cc] at h ⊢
      exact ne_one (ih _ _ _ (by simp only [cc]; omega)) fun t r e => ne_adds _ r (Nat.le_refl _) t
    | inner =>
      simp only [step, cc] at h ⊢
      refine ne_beg fun r e => ?_
      subst e
      rw [wts_cons, wt_p] at h
      exact ne_one (ih _ _ _ (by simp only [cc]; omega)) fun t r e => ne_exp fun r e => ne_ok
    | two =>
      simp only [step, cc] at h ⊢
      refine ne_one (ih _ _ _ (by simp only [cc]; omega)) fun t r e => ne_exp fun r2 e2 => ?_
      have k1 := key e trivial
      subst e2
      rw [wts_cons] at k1
      exact ne_one (ih _ _ _ (by simp only [cc]; omega)) fun t r e => ne_exp fun r e => ne_ok
    | atom =>
      simp only [step, cc] at h ⊢
      split
      · exact ne_bad
      · rename_i s r
        rw [wts_cons] at h
        split
        · exact ih _ _ _ (by rw [wts_cons]; simp only [cc]; omega)
        · split
          · exact ne_nums fun c n r e => ne_ok
          · split
            · refine ne_nam fun k q e => ?_
              subst e
              rw [wts_cons] at h
              exact ne_one (ih _ _ _ (by simp only [cc]; omega)) fun t r e => ne_ok
            · split
              · refine ne_nam fun k q e => ne_nums fun c n q2 e2 => ?_
                subst e
                subst e2
                rw [wts_cons, wts_app] at h
                split
                · exact ne_bad
                · exact ne_one (ih _ _ _ (by simp only [cc]; omega)) fun t r e => ne_ok
              · split
                · refine ne_beg fun q e => ?_
                  subst e
                  rw [wts_cons, wt_p] at h
                  exact ne_duo (ih _ _ _ (by simp only [cc]; omega)) fun t u r e => ne_ok
                · split
                  · refine ne_beg fun q e => ?_
                    subst e
                    rw [wts_cons, wt_p] at h
                    refine ne_one (ih _ _ _ (by simp only [cc]; omega)) fun t r e => ne_exp fun q2 e2 => ?_
                    have k1 := key e trivial
                    subst e2
                    rw [wts_cons] at k1
                    exact ne_duo (ih _ _ _ (by simp only [cc]; omega)) fun t u r e => ne_ok
                  · split
                    · exact ne_ok
                    · exact ne_bad
    | cond =>
      simp only [step, cc] at h ⊢
      refine ne_one (ih _ _ _ (by simp only [cc]; omega)) fun t r e => ?_
      have k1 := key e trivial
      exact ih _ _ _ (by simp only [cc]; omega)
    | both =>
      simp only [step, cc] at h ⊢
      refine ne_one (ih _ _ _ (by simp only [cc]; omega)) fun t r e => ?_
      have k1 := key e trivial
      exact ih _ _ _ (by simp only [cc]; omega)
    | ors c =>
      simp only [step, cc] at h ⊢
      split
      · exact ne_ok
      · split
        · rename_i e; subst e
          rw [wts_cons, wt_o] at h
          refine ne_one (ih _ _ _ (by simp only [cc]; omega)) fun t r e => ?_
          have k1 := key e trivial
          exact ih _ _ _ (by simp only [cc]; omega)
        · exact ne_ok
    | ands c =>
      simp only [step, cc] at h ⊢
      split
      · exact ne_ok
      · split
        · rename_i e; subst e
          rw [wts_cons, wt_a] at h
          refine ne_one (ih _ _ _ (by simp only [cc]; omega)) fun t r e => ?_
          have k1 := key e trivial
          exact ih _ _ _ (by simp only [cc]; omega)
        · exact ne_ok
    | unit =>
      simp only [step, cc] at h ⊢
      split
      · exact ih _ _ _ (by simp only [cc]; omega)
      · rename_i s r
        rw [wts_cons] at h
        split
        · rename_i e; subst e
          rw [wt_n] at h
          split
          · exact ne_bad
          · exact ne_one (ih _ _ _ (by simp only [cc]; omega)) fun t r e => ne_ok
        · split
          · exact ne_ok
          · split
            · exact ne_nam fun k q e => ne_ok
            · split
              · refine ne_nam fun k q e => ?_
                subst e
                rw [wts_cons] at h
                exact ne_one (ih _ _ _ (by simp only [cc]; omega)) fun t r e => ne_ok
              · split
                · rename_i e; subst e
                  rw [wt_b] at h
                  split
                  · exact ne_bad
                  · exact ne_one (ih _ _ _ (by simp only [cc]; omega)) fun t r e => ne_exp fun r e => ne_ok
                · exact ih _ _ _ (by rw [wts_cons]; simp only [cc]; omega)
    | comp =>
      simp only [step, cc] at h ⊢
      refine ne_one (ih _ _ _ (by simp only [cc]; omega)) fun t r e => ?_
      have k1 := key e trivial
      split
      · exact ne_bad
      · rw [wts_cons] at k1
        split
        · exact ne_one (ih _ _ _ (by simp only [cc]; omega)) fun t r e => ne_ok
        · exact ne_bad

/-! ### the law's walk: it tells where it ends, no nodes -/
inductive Wd where
  | t | inner | two | atom | unit | c | cs
def wadds : List Str → R
  | [] => .ok [] []
  | [s] => if s = "+" ∨ s = "-" then .bad else .ok [] [s]
  | s :: d :: r => if s = "+" ∨ s = "-" then (match digOk d with
    | some _ => wadds r
    | none => .bad) else .ok [] (s :: d :: r)
def wcomp (W : Wd → List Str → R) (ts : List Str) : R := (W .t ts).thn fun r => match r with
  | [] => .bad
  | s :: r => if s = "<=" ∨ s = "<" ∨ s = "=" then W .t r else .bad
def wstep (W : Wd → List Str → R) : Wd → List Str → R
  | .t, ts => (W .atom ts).thn wadds
  | .inner, ts => exp "(" ts fun r => (W .t r).thn fun r => exp ")" r fun r => .ok [] r
  | .two, ts => (W .t ts).thn fun r => exp "," r fun r => (W .t r).thn fun r => exp ")" r fun r => .ok [] r
  | .atom, ts => (match ts with
    | [] => .bad
    | s :: r => if s = "(" then W .inner (s :: r)
      else if s = "@" then nums r fun _ r => .ok [] r
      else if s = "next" ∨ s = "prev" then nam r fun _ r => W .inner r
      else if s = "open" then nam r fun _ r => nums r fun n r => if n = 0 ∨ n > 6 ∨ n < -6 then .bad else W .inner r
      else if s = "later" ∨ s = "earlier" then exp "(" r fun r => W .two r
      else if s = "if" then exp "(" r fun r => (W .c r).thn fun r => exp "," r fun r => W .two r
      else if isName s = true then .ok [] r else .bad)
  | .unit, ts => (match ts with
    | [] => .bad
    | s :: r => if s = "not" then W .unit r
      else if s = "yes" then .ok [] r
      else if s = "?" then nam r fun _ r => .ok [] r
      else if s = "is" then nam r fun _ r => W .inner r
      else if s = "[" then (W .c r).thn fun r => exp "]" r fun r => .ok [] r
      else wcomp W (s :: r))
  | .c, ts => (W .unit ts).thn fun r => W .cs r
  | .cs, ts => (match ts with
    | [] => .ok [] []
    | s :: r => if s = "and" ∨ s = "or" then (W .unit r).thn fun r => W .cs r else .ok [] (s :: r))
def W : Nat → Wd → List Str → R
  | 0 => fun _ _ => .out
  | f + 1 => wstep (W f)
end KM

namespace KM
open PySem

/-! ### the walk says what the parser says -/
def er : R → R
  | .out => .out
  | .bad => .bad
  | .ok _ r => .ok [] r
theorem er_one {x : R} {k : Nd → List Str → R} {k' : List Str → R} (hn : x.one k ≠ .out) (hs : ∀ ns r, x = .ok ns r → ∃ t, ns = [t]) (h : ∀ t r, x = .ok [t] r → k t r ≠ .out → k' r = er (k t r)) : (er x).thn k' = er (x.one k) := by
  cases x with
  | out => rfl
  | bad => rfl
  | ok ns r =>
    obtain ⟨t, rfl⟩ := hs ns r rfl
    exact h t r rfl hn
theorem er_duo {x : R} {k : Nd → Nd → List Str → R} {k' : List Str → R} (hn : x.duo k ≠ .out) (hs : ∀ ns r, x = .ok ns r → ∃ t u, ns = [t, u]) (h : ∀ t u r, x = .ok [t, u] r → k t u r ≠ .out → k' r = er (k t u r)) : (er x).thn k' = er (x.duo k) := by
  cases x with
  | out => rfl
  | bad => rfl
  | ok ns r =>
    obtain ⟨t, u, rfl⟩ := hs ns r rfl
    exact h t u r rfl hn
theorem one_ne {x : R} {k : Nd → List Str → R} (hn : x.one k ≠ .out) : x ≠ .out := fun e => by subst e; exact hn rfl
theorem duo_ne {x : R} {k : Nd → Nd → List Str → R} (hn : x.duo k ≠ .out) : x ≠ .out := fun e => by subst e; exact hn rfl
theorem er_exp {w : Str} {ts : List Str} {k k' : List Str → R} (hn : exp w ts k ≠ .out) (h : ∀ r, ts = w :: r → k r ≠ .out → k' r = er (k r)) : exp w ts k' = er (exp w ts k) := by
  cases ts with
  | nil => rfl
  | cons s r =>
    by_cases e : s = w
    · have e1 : exp w (s :: r) k = k r := if_pos e
      have e2 : exp w (s :: r) k' = k' r := if_pos e
      rw [e1] at hn
      rw [e1, e2]
      exact h r (by rw [e]) hn
    · have e1 : exp w (s :: r) k = .bad := if_neg e
      have e2 : exp w (s :: r) k' = .bad := if_neg e
      rw [e1, e2]; rfl
theorem er_beg {w : Str} {lv : Nat} {ts : List Str} {k k' : List Str → R} (hn : beg w lv ts k ≠ .out) (hl : ∀ r, ts = w :: r → lv < 100) (h : ∀ r, ts = w :: r → k r ≠ .out → k' r = er (k r)) : exp w ts k' = er (beg w lv ts k) := by
  refine er_exp hn fun r e hk => ?_
  have hlv := hl r e
  rw [if_neg (by omega)] at hk ⊢
  exact h r e hk
theorem er_nam {ts : List Str} {k : Str → List Str → R} {k' : Str → List Str → R} (hn : nam ts k ≠ .out) (h : ∀ s r, ts = s :: r → k s r ≠ .out → k' s r = er (k s r)) : nam ts k' = er (nam ts k) := by
  cases ts with
  | nil => rfl
  | cons s r =>
    by_cases e : isName s = true
    · have e1 : nam (s :: r) k = k s r := if_pos e
      have e2 : nam (s :: r) k' = k' s r := if_pos e
      rw [e1] at hn
      rw [e1, e2]
      exact h s r rfl hn
    · have e1 : nam (s :: r) k = .bad := if_neg e
      have e2 : nam (s :: r) k' = .bad := if_neg e
      rw [e1, e2]; rfl
theorem er_digs {ts : List Str} {k : Nat → List Str → R} {k' : Nat → List Str → R} (hn : digs ts k ≠ .out) (h : ∀ s n r, ts = s :: r → k n r ≠ .out → k' n r = er (k n r)) : digs ts k' = er (digs ts k) := by
  cases ts with
  | nil => rfl
  | cons s r =>
    have e1 : ∀ q : Nat → List Str → R, digs (s :: r) q = match digOk s with
      | some n => q n r
      | none => .bad := fun _ => rfl
    rw [e1] at hn
    rw [e1, e1]
    cases e : digOk s with
    | none => rfl
    | some n =>
      rw [e] at hn
      exact h s n r rfl hn
theorem er_nums {ts : List Str} {k : Int → List Str → R} {k' : Int → List Str → R} (hn : nums ts k ≠ .out) (h : ∀ c n r, ts = c ++ r → k n r ≠ .out → k' n r = er (k n r)) : nums ts k' = er (nums ts k) := by
  cases ts with
  | nil => rfl
  | cons s r =>
    by_cases e : s = "-"
    · have e1 : ∀ q : Int → List Str → R, nums (s :: r) q = digs r fun n w => q (-(n : Int)) w := fun _ => if_pos e
      rw [e1] at hn
      rw [e1, e1]
      exact er_digs hn fun d n w e2 hk => h [s, d] _ w (by rw [e2]; rfl) hk
    · have e1 : ∀ q : Int → List Str → R, nums (s :: r) q = digs (s :: r) fun n w => q (n : Int) w := fun _ => if_neg e
      rw [e1] at hn
      rw [e1, e1]
      exact er_digs hn fun d n w e2 hk => h [d] _ w (by rw [e2]; rfl) hk
theorem er_adds : ∀ (n : Nat) (ts : List Str), ts.length ≤ n → ∀ t, wadds ts = er (adds t ts)
  | n, [], _, t => rfl
  | n, [s], _, t => by
    unfold adds wadds
    split <;> rfl
  | 0, s :: d :: r, h, t => by simp at h
  | n + 1, s :: d :: r, hl, t => by
    unfold adds wadds
    split
    · cases e : digOk d with
      | none => rfl
      | some m => exact er_adds n r (by simp only [List.length_cons] at hl; omega) _
    · rfl
theorem shape1 {f : Nat} {kd : Kd} {lv : Nat} {ts r : List Str} {ns : List Nd} (e : P f kd lv ts = .ok ns r) (hk : kd.ext) (h2 : kd ≠ .two) : ∃ t, ns = [t] := by
  have h := P_post no1a f kd lv ts ns r e
  cases kd with
  | ors c => exact hk.elim
  | ands c => exact hk.elim
  | two => exact absurd rfl h2
  | _ => obtain ⟨c, t, _, _, e, _⟩ := h; exact ⟨t, e⟩
theorem shape2 {f : Nat} {lv : Nat} {ts r : List Str} {ns : List Nd} (e : P f .two lv ts = .ok ns r) : ∃ t u, ns = [t, u] := by
  obtain ⟨c, t, u, _, _, e, _⟩ := P_post no1a f .two lv ts ns r e
  exact ⟨t, u, e⟩
theorem wstep_cs (W : Wd → List Str → R) (s : Str) (r : List Str) : wstep W .cs (s :: r) = if s = "and" ∨ s = "or" then (W .unit r).thn (fun r => W .cs r) else .ok [] (s :: r) := rfl
theorem W_le (f : Nat) (wd : Wd) (ts : List Str) (g : Nat) (hg : 1 ≤ g) : W g wd ts = wstep (W (g - 1)) wd ts := by
  obtain ⟨g, rfl⟩ : ∃ h, g = h + 1 := ⟨g - 1, by omega⟩
  rfl
def hd (w : Str) : List Str → Prop
  | [] => False
  | s :: _ => s = w
def Rel (f : Nat) : Kd → R → List Str → Prop
  | .term, x, ts => ∀ g, f + aoc ts ≤ g → W g .t ts = er x
  | .inner, x, ts => ∀ g, f + aoc ts ≤ g → W g .inner ts = er x
  | .two, x, ts => ∀ g, f + aoc ts ≤ g → W g .two ts = er x
  | .atom, x, ts => ∀ g, f + aoc ts ≤ g → W g .atom ts = er x
  | .unit, x, ts => ∀ g, f + aoc ts ≤ g → W g .unit ts = er x
  | .comp, x, ts => ∀ g, f + aoc ts ≤ g → wcomp (W g) ts = er x
  | .cond, x, ts => ∀ g, f + aoc ts ≤ g → W g .c ts = er x
  | .both, x, ts => (x = .bad → ∀ g, f + aoc ts ≤ g → W g .c ts = .bad) ∧ ∀ ns r, x = .ok ns r → ¬ hd "and" r ∧ ∀ m y, f ≤ m → (∀ g, m + aoc r ≤ g → W g .cs r = y) → ∀ g, m + 1 + aoc ts ≤ g → W g .c ts = y
  | .ands _, x, ts => (x = .bad → ∀ g, f + aoc ts ≤ g → W g .cs ts = .bad) ∧ ∀ ns r, x = .ok ns r → ¬ hd "and" r ∧ ∀ m y, f ≤ m → (∀ g, m + aoc r ≤ g → W g .cs r = y) → ∀ g, m + aoc ts ≤ g → W g .cs ts = y
  | .ors _, x, ts => ¬ hd "and" ts → ∀ g, f + aoc ts ≤ g → W g .cs ts = er x
theorem PW (f : Nat) : ∀ (kd : Kd) (lv : Nat) (ts : List Str), lv + opc ts ≤ 100 → P f kd lv ts ≠ .out → Rel f kd (P f kd lv ts) ts := by
  induction f with
  | zero => intro kd lv ts _ h; exact absurd rfl h
  | succ f ih =>
    intro kd lv ts hl hn
    have hn' : step (P f) kd lv ts ≠ .out := hn
    show Rel (f + 1) kd (step (P f) kd lv ts) ts
    have key : ∀ {kd : Kd} {lv : Nat} {ts : List Str} {ns : List Nd} {r : List Str}, P f kd lv ts = .ok ns r → kd.ext → opc r ≤ opc ts ∧ aoc r ≤ aoc ts := fun e hk => by
      obtain ⟨c, rfl⟩ := suf1 e hk
      rw [opc_app, aoc_app]; omega
    cases kd with
    | term =>
      intro g hg
      rw [W_le f _ _ g (by omega)]
      simp only [step] at hn' ⊢
      have h1 := ih .atom lv ts hl (one_ne hn') (g - 1) (by omega)
      show (W (g - 1) .atom ts).thn wadds = _
      rw [h1]
      exact er_one hn' (fun ns r e => shape1 e trivial (by intro z; cases z)) fun t r e hk => er_adds _ r (Nat.le_refl _) t
    | inner =>
      intro g hg
      rw [W_le f _ _ g (by omega)]
      simp only [step] at hn' ⊢
      refine er_beg hn' (fun r e => by subst e; rw [opc_cons, op_p] at hl; omega) fun r e hk => ?_
      subst e
      rw [opc_cons, op_p] at hl
      rw [aoc_cons] at hg
      rw [ih .term (lv + 1) r (by omega) (one_ne hk) (g - 1) (by omega)]
      exact er_one hk (fun ns r e => shape1 e trivial (by intro z; cases z)) fun t r e hk => er_exp hk fun r e hk => rfl
    | two =>
      intro g hg
      rw [W_le f _ _ g (by omega)]
      simp only [step] at hn' ⊢
      show (W (g - 1) .t ts).thn _ = _
      rw [ih .term lv ts hl (one_ne hn') (g - 1) (by omega)]
      refine er_one hn' (fun ns r e => shape1 e trivial (by intro z; cases z)) fun t r e hk => er_exp hk fun r2 e2 hk => ?_
      have k1 := key e trivial
      subst e2
      rw [opc_cons, aoc_cons] at k1
      rw [ih .term lv r2 (by omega) (one_ne hk) (g - 1) (by omega)]
      exact er_one hk (fun ns r e => shape1 e trivial (by intro z; cases z)) fun t r e hk => er_exp hk fun r e hk => rfl
    | atom =>
      intro g hg
      rw [W_le f _ _ g (by omega)]
      cases ts with
      | nil => simp only [step, wstep]; rfl
      | cons s r =>
        simp only [step, wstep] at hn' ⊢
        by_cases c1 : s = "("
        · rw [if_pos c1] at hn' ⊢
          rw [if_pos c1]
          exact ih .inner lv _ hl hn' (g - 1) (by omega)
        · rw [if_neg c1] at hn' ⊢
          rw [if_neg c1]
          rw [opc_cons] at hl
          rw [aoc_cons] at hg
          by_cases c2 : s = "@"
          · rw [if_pos c2] at hn' ⊢
            rw [if_pos c2]
            exact er_nums hn' fun c n r e hk => rfl
          · rw [if_neg c2] at hn' ⊢
            rw [if_neg c2]
            by_cases c3 : s = "next" ∨ s = "prev"
            · rw [if_pos c3] at hn' ⊢
              rw [if_pos c3]
              refine er_nam hn' fun k q e hk => ?_
              subst e
              rw [opc_cons] at hl
              rw [aoc_cons] at hg
              rw [ih .inner lv q (by omega) (one_ne hk) (g - 1) (by omega)]
              have z := er_one (k' := fun r => .ok [] r) hk (fun ns r e => shape1 e trivial (by intro z; cases z)) fun t r e hk => rfl
              rw [← z]
              cases P f .inner lv q <;> rfl
            · rw [if_neg c3] at hn' ⊢
              rw [if_neg c3]
              by_cases c4 : s = "open"
              · rw [if_pos c4] at hn' ⊢
                rw [if_pos c4]
                refine er_nam hn' fun k q e hk0 => er_nums hk0 fun c n q2 e2 hk => ?_
                subst e
                subst e2
                rw [opc_cons, opc_app] at hl
                rw [aoc_cons, aoc_app] at hg
                by_cases c5 : n = 0 ∨ n > 6 ∨ n < -6
                · rw [if_pos c5, if_pos c5]; rfl
                · rw [if_neg c5] at hk ⊢
                  rw [if_neg c5]
                  rw [ih .inner lv q2 (by omega) (one_ne hk) (g - 1) (by omega)]
                  have z := er_one (k' := fun r => .ok [] r) hk (fun ns r e => shape1 e trivial (by intro z; cases z)) fun t r e hk => rfl
                  rw [← z]
                  cases P f .inner lv q2 <;> rfl
              · rw [if_neg c4] at hn' ⊢
                rw [if_neg c4]
                by_cases c5 : s = "later" ∨ s = "earlier"
                · rw [if_pos c5] at hn' ⊢
                  rw [if_pos c5]
                  refine er_beg hn' (fun q e => by subst e; rw [opc_cons, op_p] at hl; omega) fun q e hk => ?_
                  subst e
                  rw [opc_cons, op_p] at hl
                  rw [aoc_cons] at hg
                  rw [ih .two (lv + 1) q (by omega) (duo_ne hk) (g - 1) (by omega)]
                  have z := er_duo (k' := fun r => .ok [] r) hk (fun ns r e => shape2 e) fun t u r e hk => rfl
                  rw [← z]
                  cases P f .two (lv + 1) q <;> rfl
                · rw [if_neg c5] at hn' ⊢
                  rw [if_neg c5]
                  by_cases c6 : s = "if"
                  · rw [if_pos c6] at hn' ⊢
                    rw [if_pos c6]
                    refine er_beg hn' (fun q e => by subst e; rw [opc_cons, op_p] at hl; omega) fun q e hk => ?_
                    subst e
                    rw [opc_cons, op_p] at hl
                    rw [aoc_cons] at hg
                    rw [ih .cond (lv + 1) q (by omega) (one_ne hk) (g - 1) (by omega)]
                    refine er_one hk (fun ns r e => shape1 e trivial (by intro z; cases z)) fun t r e hk => er_exp hk fun r2 e2 hk => ?_
                    have k1 := key e trivial
                    subst e2
                    rw [opc_cons, aoc_cons] at k1
                    rw [ih .two (lv + 1) r2 (by omega) (duo_ne hk) (g - 1) (by omega)]
                    have z := er_duo (k' := fun r => .ok [] r) hk (fun ns r e => shape2 e) fun t u r e hk => rfl
                    rw [← z]
                    cases P f .two (lv + 1) r2 <;> rfl
                  · rw [if_neg c6] at hn' ⊢
                    rw [if_neg c6]
                    by_cases c7 : isName s = true
                    · rw [if_pos c7, if_pos c7]; rfl
                    · rw [if_neg c7, if_neg c7]; rfl
    | unit =>
      intro g hg
      rw [W_le f _ _ g (by omega)]
      cases ts with
      | nil =>
        simp only [step, wstep] at hn' ⊢
        have z := ih .comp lv [] hl hn' (g - 1) (by omega)
        rw [← z]
        have q : W (g - 1) .t [] = .bad ∨ W (g - 1) .t [] = .out := by
          rcases Nat.lt_or_ge (g - 1) 2 with h2 | h2
          · have : g - 1 = 0 ∨ g - 1 = 1 := by omega
            rcases this with e | e <;> rw [e]
            · exact .inr rfl
            · exact .inr rfl
          · obtain ⟨m, e⟩ : ∃ m, g - 1 = m + 2 := ⟨g - 1 - 2, by omega⟩
            rw [e]
            exact .inl rfl
        unfold wcomp
        rcases q with q | q
        · rw [q]; rfl
        · exfalso
          have y : er (P f .comp lv []) ≠ .out := fun e => by
            cases w : P f .comp lv [] with
            | out => exact hn' w
            | bad => rw [w] at e; cases e
            | ok _ _ => rw [w] at e; cases e
          refine y (z.symm.trans ?_)
          unfold wcomp
          rw [q]; rfl
      | cons s r =>
        simp only [step, wstep] at hn' ⊢
        have hl0 := hl
        have hg0 := hg
        rw [opc_cons] at hl
        rw [aoc_cons] at hg
        by_cases c1 : s = "not"
        · rw [if_pos c1] at hn' ⊢
          rw [if_pos c1]
          subst c1
          rw [op_n] at hl
          rw [if_neg (by omega)] at hn' ⊢
          rw [ih .unit (lv + 1) r (by omega) (one_ne hn') (g - 1) (by omega)]
          have z := er_one (k' := fun r => .ok [] r) hn' (fun ns r e => shape1 e trivial (by intro z; cases z)) fun t r e hk => rfl
          rw [← z]
          cases P f .unit (lv + 1) r <;> rfl
        · rw [if_neg c1] at hn' ⊢
          rw [if_neg c1]
          by_cases c2 : s = "yes"
          · rw [if_pos c2, if_pos c2]; rfl
          · rw [if_neg c2] at hn' ⊢
            rw [if_neg c2]
            by_cases c3 : s = "?"
            · rw [if_pos c3] at hn' ⊢
              rw [if_pos c3]
              exact er_nam hn' fun k q e hk => rfl
            · rw [if_neg c3] at hn' ⊢
              rw [if_neg c3]
              by_cases c4 : s = "is"
              · rw [if_pos c4] at hn' ⊢
                rw [if_pos c4]
                refine er_nam hn' fun k q e hk => ?_
                subst e
                rw [opc_cons] at hl
                rw [aoc_cons] at hg
                rw [ih .inner lv q (by omega) (one_ne hk) (g - 1) (by omega)]
                have z := er_one (k' := fun r => .ok [] r) hk (fun ns r e => shape1 e trivial (by intro z; cases z)) fun t r e hk => rfl
                rw [← z]
                cases P f .inner lv q <;> rfl
              · rw [if_neg c4] at hn' ⊢
                rw [if_neg c4]
                by_cases c5 : s = "["
                · rw [if_pos c5] at hn' ⊢
                  rw [if_pos c5]
                  subst c5
                  rw [op_b] at hl
                  rw [if_neg (by omega)] at hn' ⊢
                  rw [ih .cond (lv + 1) r (by omega) (one_ne hn') (g - 1) (by omega)]
                  exact er_one hn' (fun ns r e => shape1 e trivial (by intro z; cases z)) fun t r e hk => er_exp hk fun r e hk => rfl
                · rw [if_neg c5] at hn' ⊢
                  rw [if_neg c5]
                  exact ih .comp lv (s :: r) hl0 hn' (g - 1) (by omega)
    | comp =>
      intro g hg
      simp only [step] at hn' ⊢
      unfold wcomp
      rw [ih .term lv ts hl (one_ne hn') g (by omega)]
      refine er_one hn' (fun ns r e => shape1 e trivial (by intro z; cases z)) fun t r e hk => ?_
      have k1 := key e trivial
      cases r with
      | nil => rfl
      | cons s r =>
        rw [opc_cons, aoc_cons] at k1
        dsimp only at hk ⊢
        by_cases c1 : s = "<=" ∨ s = "<" ∨ s = "="
        · rw [if_pos c1] at hk ⊢
          rw [if_pos c1]
          rw [ih .term lv r (by omega) (one_ne hk) g (by omega)]
          have z := er_one (k' := fun r => .ok [] r) hk (fun ns r e => shape1 e trivial (by intro z; cases z)) fun t r e hk => rfl
          rw [← z]
          cases P f .term lv r <;> rfl
        · rw [if_neg c1, if_neg c1]; rfl
    | cond =>
      intro g hg
      simp only [step] at hn' ⊢
      obtain ⟨hb, hk⟩ := ih .both lv ts hl (one_ne hn')
      cases e : P f .both lv ts with
      | out => exact absurd e (one_ne hn')
      | bad => exact hb e g (by omega)
      | ok ns r =>
        obtain ⟨t, rfl⟩ := shape1 e trivial (by intro z; cases z)
        obtain ⟨h1, h2⟩ := hk _ r e
        rw [e] at hn'
        have hn2 : P f (.ors t) lv r ≠ .out := hn'
        show W g .c ts = er (P f (.ors t) lv r)
        have k1 := key e trivial
        exact h2 f _ (Nat.le_refl _) (fun g' hg' => ih (.ors t) lv r (by omega) hn2 h1 g' hg') g (by omega)
    | ors c =>
      intro ha g hg
      rw [W_le f _ _ g (by omega)]
      simp only [step] at hn' ⊢
      cases ts with
      | nil => rfl
      | cons s r =>
        rw [opc_cons] at hl
        dsimp only at hn' ⊢
        by_cases c1 : s = "or"
        · rw [if_pos c1] at hn' ⊢
          subst c1
          rw [aoc_cons, ao_o] at hg
          rw [wstep_cs, if_pos (Or.inr rfl)]
          have w1 : (W (g - 1) .unit r).thn (fun r => W (g - 1) .cs r) = W g .c r := (W_le f .c r g (by omega)).symm
          rw [w1]
          obtain ⟨hb, hk⟩ := ih .both lv r (by omega) (one_ne hn')
          cases e : P f .both lv r with
          | out => exact absurd e (one_ne hn')
          | bad => exact hb e g (by omega)
          | ok ns r2 =>
            obtain ⟨t, rfl⟩ := shape1 e trivial (by intro z; cases z)
            obtain ⟨h1, h2⟩ := hk _ r2 e
            rw [e] at hn'
            have hn2 : P f (.ors (.disj c t)) lv r2 ≠ .out := hn'
            show W g .c r = er (P f (.ors (.disj c t)) lv r2)
            have k1 := key e trivial
            exact h2 f _ (Nat.le_refl _) (fun g' hg' => ih (.ors (.disj c t)) lv r2 (by omega) hn2 h1 g' hg') g (by omega)
        · rw [if_neg c1]
          rw [wstep_cs, if_neg (by rintro (e | e); exact ha e; exact c1 e)]
          rfl
    | both =>
      simp only [step] at hn' ⊢
      have hu := ih .unit lv ts hl (one_ne hn')
      have wc : ∀ g, f + 1 + aoc ts ≤ g → W g .c ts = (er (P f .unit lv ts)).thn fun r => W (g - 1) .cs r := fun g hg => by
        rw [W_le f _ _ g (by omega)]
        show (W (g - 1) .unit ts).thn _ = _
        rw [hu (g - 1) (by omega)]
      cases e : P f .unit lv ts with
      | out => exact absurd e (one_ne hn')
      | bad =>
        refine ⟨fun _ g hg => ?_, fun ns r e2 => by cases e2⟩
        rw [wc g hg, e]; rfl
      | ok ns r =>
        obtain ⟨t, rfl⟩ := shape1 e trivial (by intro z; cases z)
        rw [e] at hn'
        have hn2 : P f (.ands t) lv r ≠ .out := hn'
        have k1 := key e trivial
        obtain ⟨h1, h2⟩ := ih (.ands t) lv r (by omega) hn2
        refine ⟨fun e2 g hg => ?_, fun ns2 r2 e2 => ?_⟩
        · rw [wc g hg, e]
          exact h1 e2 (g - 1) (by omega)
        · obtain ⟨h3, h4⟩ := h2 ns2 r2 e2
          refine ⟨h3, fun m y hm hy g hg => ?_⟩
          rw [wc g (by omega), e]
          exact h4 m y (by omega) hy (g - 1) (by omega)
    | ands c =>
      simp only [step] at hn' ⊢
      cases ts with
      | nil => exact ⟨fun e => (by cases e), fun ns r e => by cases e; exact ⟨fun h => h, fun m y _ hy g hg => hy g hg⟩⟩
      | cons s r =>
        rw [opc_cons] at hl
        dsimp only at hn' ⊢
        by_cases c1 : s = "and"
        · rw [if_pos c1] at hn' ⊢
          subst c1
          have hu := ih .unit lv r (by omega) (one_ne hn')
          have wc : ∀ g, f + 1 + aoc (("and" : Str) :: r) ≤ g → W g .cs (("and" : Str) :: r) = (er (P f .unit lv r)).thn fun r => W (g - 1) .cs r := fun g hg => by
            rw [aoc_cons, ao_a] at hg
            rw [W_le f _ _ g (by omega)]
            rw [wstep_cs, if_pos (Or.inl rfl), hu (g - 1) (by omega)]
          cases e : P f .unit lv r with
          | out => exact absurd e (one_ne hn')
          | bad =>
            refine ⟨fun _ g hg => ?_, fun ns r e2 => by cases e2⟩
            rw [wc g hg, e]; rfl
          | ok ns r2 =>
            obtain ⟨t, rfl⟩ := shape1 e trivial (by intro z; cases z)
            rw [e] at hn'
            have hn2 : P f (.ands (.conj c t)) lv r2 ≠ .out := hn'
            have k1 := key e trivial
            obtain ⟨h1, h2⟩ := ih (.ands (.conj c t)) lv r2 (by omega) hn2
            refine ⟨fun e2 g hg => ?_, fun ns2 r3 e2 => ?_⟩
            · rw [wc g hg, e]
              rw [aoc_cons, ao_a] at hg
              exact h1 e2 (g - 1) (by omega)
            · obtain ⟨h3, h4⟩ := h2 ns2 r3 e2
              refine ⟨h3, fun m y hm hy g hg => ?_⟩
              rw [wc g (by omega), e]
              rw [aoc_cons, ao_a] at hg
              exact h4 m y (by omega) hy (g - 1) (by omega)
        · rw [if_neg c1]
          exact ⟨fun e => (by cases e), fun ns r e => by cases e; exact ⟨fun h => c1 h, fun m y _ hy g hg => hy g hg⟩⟩
end KM

namespace KM
open PySem

/-! ### the plain text's tokens -/
def dk (n : Nat) : Str := ⟨(TL.numL n).toArray⟩
def isOr : Nd → Bool
  | .disj _ _ => true
  | _ => false
def isAO : Nd → Bool
  | .disj _ _ => true
  | .conj _ _ => true
  | _ => false
def sgn (n : Int) : Str := if n < 0 then "-" else "+"
def numT (n : Int) : List Str := if n < 0 then [("-" : Str), dk n.natAbs] else [dk n.natAbs]
def br (b : Bool) (l : List Str) : List Str := if b = true then ("[" : Str) :: (l ++ [("]" : Str)]) else l
def pt : Nd → List Str
  | .day x => [x]
  | .num n => ("@" : Str) :: numT n
  | .plus t n => pt t ++ [sgn n, dk n.natAbs]
  | .near b k t => (if b = true then ("next" : Str) else "prev") :: k :: ("(" : Str) :: (pt t ++ [(")" : Str)])
  | .nth k t n => ("open" : Str) :: k :: (numT n ++ ("(" : Str) :: (pt t ++ [(")" : Str)]))
  | .pick b t u => (if b = true then ("later" : Str) else "earlier") :: ("(" : Str) :: (pt t ++ ("," : Str) :: (pt u ++ [(")" : Str)]))
  | .ite c t u => ("if" : Str) :: ("(" : Str) :: (pt c ++ ("," : Str) :: (pt t ++ ("," : Str) :: (pt u ++ [(")" : Str)])))
  | .le t u => pt t ++ ("<=" : Str) :: pt u
  | .isO k t => ("is" : Str) :: k :: ("(" : Str) :: (pt t ++ [(")" : Str)])
  | .flag x => [("?" : Str), x]
  | .yes => [("yes" : Str)]
  | .neg c => ("not" : Str) :: br (isAO c) (pt c)
  | .conj c d => br (isOr c) (pt c) ++ ("and" : Str) :: br (isAO d) (pt d)
  | .disj c d => pt c ++ ("or" : Str) :: br (isOr d) (pt d)

/-! ### numbers -/
theorem numL_head {n : Nat} (h : 1 ≤ n) : (TL.numL n).head? ≠ some 48 := by
  induction n using Nat.strongRecOn with
  | _ n ih =>
    by_cases c : n < 10
    · rw [TL.numL_lt c]
      simp; omega
    · rw [TL.numL_step (by omega)]
      have h1 := ih (n / 10) (by omega) (by omega)
      cases e : TL.numL (n / 10) with
      | nil => exact absurd e (TL.numL_ne _)
      | cons a l => rw [e] at h1; simpa using h1
theorem all_dg {l : List Nat} (h : NumText.AllDigits l) : l.all dg = true := List.all_eq_true.mpr fun c hc => by
  obtain ⟨h1, h2⟩ := h c hc
  simp [dg, h1, h2]
theorem of_all_dg {l : List Nat} (h : l.all dg = true) : NumText.AllDigits l := fun c hc => by
  have := List.all_eq_true.mp h c hc
  simpa [dg] using this
theorem dig_dk {n : Nat} (h : n ≤ 1000000) : digOk (dk n) = some n := by
  have e1 : tl (dk n) = TL.numL n := rfl
  have hv : dval (TL.numL n) = n := TL.numL_val n
  have hl : (TL.numL n).length ≤ 7 := TL.numL_len (by decide) (by omega)
  have hp : 1 ≤ (TL.numL n).length := List.length_pos_iff.mpr (TL.numL_ne n)
  unfold digOk
  rw [e1, hv, all_dg (TL.numL_digits n)]
  rw [if_pos]
  simp only [Bool.and_eq_true, Bool.not_eq_true', decide_eq_true_eq, Bool.and_eq_false_iff, decide_eq_false_iff_not]
  refine ⟨hp, hl, trivial, ?_, h⟩
  by_cases c : n = 0
  · left
    subst c
    decide +kernel
  · right
    exact numL_head (by omega)
theorem dk_ne {n : Nat} {s : Str} (hs : ((tl s).all dg && !(tl s).isEmpty) = false) : dk n ≠ s := fun e => by
  rw [← e] at hs
  have e1 : tl (dk n) = TL.numL n := rfl
  rw [e1, all_dg (TL.numL_digits n)] at hs
  cases z : TL.numL n with
  | nil => exact TL.numL_ne n z
  | cons a l => rw [z] at hs; cases hs
theorem nums_cons (s : Str) (r : List Str) (k : Int → List Str → R) : nums (s :: r) k = if s = "-" then digs r fun n q => k (-(n : Int)) q else digs (s :: r) fun n q => k (n : Int) q := rfl
theorem nums_T {n : Int} (h : -1000000 ≤ n ∧ n ≤ 1000000) (X : List Str) (k : Int → List Str → R) : nums (numT n ++ X) k = k n X := by
  unfold numT
  split
  · rename_i c
    have e0 : nums (([("-" : Str), dk n.natAbs] : List Str) ++ X) k = digs (dk n.natAbs :: X) fun m q => k (-(m : Int)) q := (nums_cons _ _ _).trans (if_pos rfl)
    rw [e0]
    show (match digOk (dk n.natAbs) with
      | some m => k (-(m : Int)) X
      | none => R.bad) = _
    rw [dig_dk (by omega)]
    show k (-((n.natAbs : Nat) : Int)) X = _
    rw [show (-((n.natAbs : Nat) : Int)) = n by omega]
  · rename_i c
    have e0 : nums (([dk n.natAbs] : List Str) ++ X) k = digs (dk n.natAbs :: X) fun m q => k (m : Int) q := (nums_cons _ _ _).trans (if_neg (dk_ne (by decide +kernel)))
    rw [e0]
    show (match digOk (dk n.natAbs) with
      | some m => k (m : Int) X
      | none => R.bad) = _
    rw [dig_dk (by omega)]
    show k ((n.natAbs : Nat) : Int) X = _
    rw [show ((n.natAbs : Nat) : Int) = n by omega]
theorem adds_T {n : Int} (h : -1000000 ≤ n ∧ n ≤ 1000000) (t : Nd) (X : List Str) : adds t (sgn n :: dk n.natAbs :: X) = adds (.plus t n) X := by
  show (if sgn n = "+" ∨ sgn n = "-" then (match digOk (dk n.natAbs) with
    | some m => adds (.plus t (if sgn n = "-" then -(m : Int) else (m : Int))) X
    | none => .bad) else _) = _
  rw [dig_dk (by omega)]
  unfold sgn
  split
  · rw [if_pos (Or.inr rfl)]
    show adds (.plus t (if ("-" : Str) = "-" then -((n.natAbs : Nat) : Int) else _)) X = _
    rw [if_pos rfl, show (-((n.natAbs : Nat) : Int)) = n by omega]
  · rw [if_pos (Or.inl rfl)]
    show adds (.plus t (if ("+" : Str) = "-" then _ else ((n.natAbs : Nat) : Int))) X = _
    rw [if_neg (by decide +kernel), show ((n.natAbs : Nat) : Int) = n by omega]

/-! ### reading the plain text's tokens -/
def nd (n : Nd) : Nat := 4 * depth n + size n
def nf (X : List Str) : Prop := ¬ hd "+" X ∧ ¬ hd "-" X
def ka : Nd → Nat
  | .conj c _ => (if isOr c = true then 0 else ka c) + 1
  | _ => 0
def ko : Nd → Nat
  | .disj c _ => ko c + 1
  | _ => 0
theorem ka_lt (n : Nd) : ka n + 1 ≤ size n := by
  induction n <;> simp only [ka, size] <;> (try split) <;> omega
theorem ko_lt (n : Nd) : ko n + 1 ≤ size n := by
  induction n <;> simp only [ko, size] <;> omega
theorem lit_nn : ∀ s ∈ lits, isName s = false := by decide +kernel
theorem nn {x s : Str} (h : isName x = true) (hs : s ∈ lits) : x ≠ s := fun e => by
  rw [e, lit_nn s hs] at h; cases h
theorem one_go {t : Nd} {r : List Str} {k : Nd → List Str → R} : (R.ok [t] r).one k = k t r := rfl
theorem duo_go {t u : Nd} {r : List Str} {k : Nd → Nd → List Str → R} : (R.ok [t, u] r).duo k = k t u r := rfl
theorem adds_end {t : Nd} {X : List Str} (h : nf X) : adds t X = .ok [t] X := by
  match X, h with
  | [], _ => rfl
  | [s], h => exact if_neg (by rintro (e | e); exact h.1 e; exact h.2 e)
  | s :: d :: r, h => exact if_neg (by rintro (e | e); exact h.1 e; exact h.2 e)
theorem beg_go {w : Str} {lv : Nat} {r : List Str} {k : List Str → R} (h : lv < 100) : beg w lv (w :: r) k = k r := by
  show (if w = w then (if 100 ≤ lv then R.bad else k r) else R.bad) = _
  rw [if_pos rfl, if_neg (by omega)]
theorem exp_go {w : Str} {r : List Str} {k : List Str → R} : exp w (w :: r) k = k r := if_pos rfl
theorem nam_go {x : Str} {r : List Str} {k : Str → List Str → R} (h : isName x = true) : nam (x :: r) k = k x r := if_pos h
/-- the four readings -/
structure RT (n : Nd) : Prop where
  tm : wk true n → ∀ f lv X, nd n ≤ f → lv + 2 * depth n ≤ 100 → P f .term lv (pt n ++ X) = adds n X
  un : wk false n → isAO n = false → ∀ f lv X, nd n ≤ f → lv + 2 * depth n ≤ 100 → nf X → P f .unit lv (pt n ++ X) = .ok [n] X
  bo : wk false n → isOr n = false → ∀ f lv X, nd n ≤ f → lv + 2 * depth n ≤ 100 → nf X → P (f + 1) .both lv (pt n ++ X) = P (f - ka n) (.ands n) lv X
  co : wk false n → ∀ f lv X, nd n + 1 ≤ f → lv + 2 * depth n ≤ 100 → nf X → ¬ hd "and" X → P (f + 1) .cond lv (pt n ++ X) = P (f - ko n) (.ors n) lv X
theorem ands_end {f : Nat} {c : Nd} {lv : Nat} {X : List Str} (hf : 1 ≤ f) (h : ¬ hd "and" X) : P f (.ands c) lv X = .ok [c] X := by
  obtain ⟨f, rfl⟩ : ∃ g, f = g + 1 := ⟨f - 1, by omega⟩
  cases X with
  | nil => rfl
  | cons s r => exact if_neg h
theorem ors_end {f : Nat} {c : Nd} {lv : Nat} {X : List Str} (hf : 1 ≤ f) (h : ¬ hd "or" X) : P f (.ors c) lv X = .ok [c] X := by
  obtain ⟨f, rfl⟩ : ∃ g, f = g + 1 := ⟨f - 1, by omega⟩
  cases X with
  | nil => rfl
  | cons s r => exact if_neg h
theorem nf_rb (X : List Str) : nf (("]" : Str) :: X) := ⟨fun e => absurd (show ("]" : Str) = "+" from e) (by decide +kernel), fun e => absurd (show ("]" : Str) = "-" from e) (by decide +kernel)⟩
theorem nf_and (X : List Str) : nf (("and" : Str) :: X) := ⟨fun e => absurd (show ("and" : Str) = "+" from e) (by decide +kernel), fun e => absurd (show ("and" : Str) = "-" from e) (by decide +kernel)⟩
theorem nf_or (X : List Str) : nf (("or" : Str) :: X) := ⟨fun e => absurd (show ("or" : Str) = "+" from e) (by decide +kernel), fun e => absurd (show ("or" : Str) = "-" from e) (by decide +kernel)⟩
theorem nf_rp (X : List Str) : nf ((")" : Str) :: X) := ⟨fun e => absurd (show (")" : Str) = "+" from e) (by decide +kernel), fun e => absurd (show (")" : Str) = "-" from e) (by decide +kernel)⟩
theorem nf_cm (X : List Str) : nf (("," : Str) :: X) := ⟨fun e => absurd (show ("," : Str) = "+" from e) (by decide +kernel), fun e => absurd (show ("," : Str) = "-" from e) (by decide +kernel)⟩
theorem nf_le (X : List Str) : nf (("<=" : Str) :: X) := ⟨fun e => absurd (show ("<=" : Str) = "+" from e) (by decide +kernel), fun e => absurd (show ("<=" : Str) = "-" from e) (by decide +kernel)⟩
theorem tm_end {n : Nd} (h : RT n) (hw : wk true n) {f lv : Nat} {X : List Str} (hf : nd n ≤ f) (hl : lv + 2 * depth n ≤ 100) (hX : nf X) : P f .term lv (pt n ++ X) = .ok [n] X := by
  rw [h.tm hw f lv X hf hl, adds_end hX]
theorem co_end {n : Nd} (h : RT n) (hw : wk false n) {f lv : Nat} {X : List Str} (hf : nd n + 2 ≤ f) (hl : lv + 2 * depth n ≤ 100) (hX : nf X) (ha : ¬ hd "and" X) (ho : ¬ hd "or" X) : P f .cond lv (pt n ++ X) = .ok [n] X := by
  obtain ⟨f, rfl⟩ : ∃ g, f = g + 1 := ⟨f - 1, by omega⟩
  have := ko_lt n
  rw [h.co hw f lv X (by omega) hl hX ha]
  exact ors_end (by unfold nd at hf; omega) ho
/-- in square brackets -/
theorem bk_end {n : Nd} (h : RT n) (hw : wk false n) {f lv : Nat} {X : List Str} (hf : nd n + 3 ≤ f) (hl : lv + 1 + 2 * depth n ≤ 100) : P f .unit lv (("[" : Str) :: (pt n ++ ("]" : Str) :: X)) = .ok [n] X := by
  obtain ⟨f, rfl⟩ : ∃ g, f = g + 1 := ⟨f - 1, by omega⟩
  show step (P f) .unit lv _ = _
  simp only [step]
  rw [if_neg (by decide +kernel), if_neg (by decide +kernel), if_neg (by decide +kernel), if_neg (by decide +kernel), if_pos trivial, if_neg (by omega)]
  rw [co_end h hw (by omega) (by omega) (nf_rb X) (fun e => absurd (show ("]" : Str) = "and" from e) (by decide +kernel)) (fun e => absurd (show ("]" : Str) = "or" from e) (by decide +kernel))]
  rw [one_go, exp_go]
/-- an operand of not, the second one of and -/
theorem ua_end {n : Nd} (h : RT n) (hw : wk false n) {f lv : Nat} {X : List Str} (hf : nd n + 3 ≤ f) (hl : lv + 1 + 2 * depth n ≤ 100) (hX : nf X) : P f .unit lv (br (isAO n) (pt n) ++ X) = .ok [n] X := by
  cases e : isAO n with
  | false => exact h.un hw e f lv X (by omega) (by omega) hX
  | true =>
    show P f .unit lv (("[" : Str) :: (pt n ++ [("]" : Str)]) ++ X) = _
    rw [List.cons_append, List.append_assoc]
    exact bk_end h hw hf hl
/-- the second operand of or -/
theorem bo_end {n : Nd} (h : RT n) (hw : wk false n) {f lv : Nat} {X : List Str} (hf : nd n + 4 ≤ f) (hl : lv + 1 + 2 * depth n ≤ 100) (hX : nf X) (ha : ¬ hd "and" X) : P f .both lv (br (isOr n) (pt n) ++ X) = .ok [n] X := by
  obtain ⟨f, rfl⟩ : ∃ g, f = g + 1 := ⟨f - 1, by omega⟩
  cases e : isOr n with
  | false =>
    show P (f + 1) .both lv (pt n ++ X) = _
    have := ka_lt n
    rw [h.bo hw e f lv X (by omega) (by omega) hX]
    exact ands_end (by unfold nd at hf; omega) ha
  | true =>
    show step (P f) .both lv (("[" : Str) :: (pt n ++ [("]" : Str)]) ++ X) = _
    rw [List.cons_append, List.append_assoc]
    simp only [step]
    have z := bk_end (X := X) h hw (f := f) (lv := lv) (by omega) hl
    rw [show [("]" : Str)] ++ X = ("]" : Str) :: X from rfl, z]
    exact ands_end (by omega) ha
theorem atom_term {n : Nd} {f lv : Nat} {X : List Str} (h : P f .atom lv (pt n ++ X) = .ok [n] X) : P (f + 1) .term lv (pt n ++ X) = adds n X := by
  show (P f .atom lv (pt n ++ X)).one (fun t r => adds t r) = _
  rw [h]; rfl
theorem two_end {t u : Nd} (ht : RT t) (hu : RT u) (h1 : wk true t) (h2 : wk true u) {f lv : Nat} {X : List Str} (hf : nd t + 1 ≤ f) (hg : nd u + 1 ≤ f) (hl : lv + 2 * depth t ≤ 100) (hm : lv + 2 * depth u ≤ 100) :
    P f .two lv (pt t ++ ("," : Str) :: (pt u ++ (")" : Str) :: X)) = .ok [t, u] X := by
  obtain ⟨f, rfl⟩ : ∃ g, f = g + 1 := ⟨f - 1, by omega⟩
  show (P f .term lv _).one _ = _
  rw [tm_end ht h1 (by omega) hl (nf_cm _), one_go, exp_go, tm_end hu h2 (by omega) hm (nf_rp _), one_go, exp_go]
theorem inner_end {t : Nd} (ht : RT t) (h1 : wk true t) {f lv : Nat} {X : List Str} (hf : nd t + 1 ≤ f) (hl : lv + 1 + 2 * depth t ≤ 100) :
    P f .inner lv (("(" : Str) :: (pt t ++ (")" : Str) :: X)) = .ok [t] X := by
  obtain ⟨f, rfl⟩ : ∃ g, f = g + 1 := ⟨f - 1, by omega⟩
  have := depth_pos t
  show step (P f) .inner lv _ = _
  simp only [step]
  rw [beg_go (by omega), tm_end ht h1 (by omega) hl (nf_rp _), one_go, exp_go]
/-- a unit is a both of no further -/
theorem bo_unit {n : Nd} (hk : ka n = 0) (hu : ∀ f lv X, nd n ≤ f → lv + 2 * depth n ≤ 100 → nf X → P f .unit lv (pt n ++ X) = .ok [n] X) :
    ∀ f lv X, nd n ≤ f → lv + 2 * depth n ≤ 100 → nf X → P (f + 1) .both lv (pt n ++ X) = P (f - ka n) (.ands n) lv X := fun f lv X hf hl hX => by
  show (P f .unit lv (pt n ++ X)).one _ = _
  rw [hu f lv X hf hl hX, hk]; rfl
/-- a both is a cond of no further -/
theorem co_both {n : Nd} (hk : ko n = 0) (hb : ∀ f lv X, nd n ≤ f → lv + 2 * depth n ≤ 100 → nf X → P (f + 1) .both lv (pt n ++ X) = P (f - ka n) (.ands n) lv X) :
    ∀ f lv X, nd n + 1 ≤ f → lv + 2 * depth n ≤ 100 → nf X → ¬ hd "and" X → P (f + 1) .cond lv (pt n ++ X) = P (f - ko n) (.ors n) lv X := fun f lv X hf hl hX ha => by
  obtain ⟨f, rfl⟩ : ∃ g, f = g + 1 := ⟨f - 1, by omega⟩
  have := ka_lt n
  show (P (f + 1) .both lv (pt n ++ X)).one _ = _
  rw [hb f lv X (by omega) hl hX, ands_end (by unfold nd at hf; omega) ha, hk]; rfl
theorem rt_unit {n : Nd} (hw0 : ¬ wk true n) (ha : isAO n = false) (hu : wk false n → ∀ f lv X, nd n ≤ f → lv + 2 * depth n ≤ 100 → nf X → P f .unit lv (pt n ++ X) = .ok [n] X) : RT n := by
  have k1 : ka n = 0 := by cases n <;> first | rfl | cases ha
  have k2 : ko n = 0 := by cases n <;> first | rfl | cases ha
  exact ⟨fun h => absurd h hw0, fun hw _ => hu hw, fun hw _ => bo_unit k1 (hu hw), fun hw => co_both k2 (bo_unit k1 (hu hw))⟩
theorem rt_term {n : Nd} (hw0 : ¬ wk false n) (ht : wk true n → ∀ f lv X, nd n ≤ f → lv + 2 * depth n ≤ 100 → P f .term lv (pt n ++ X) = adds n X) : RT n :=
  ⟨ht, fun h => absurd h hw0, fun h => absurd h hw0, fun h => absurd h hw0⟩

theorem step_atom (Q : Kd → Nat → List Str → R) (lv : Nat) (s : Str) (r : List Str) : step Q .atom lv (s :: r) = (if s = "(" then Q .inner lv (s :: r)
      else if s = "@" then nums r fun n r => .ok [.num n] r
      else if s = "next" ∨ s = "prev" then nam r fun k r => (Q .inner lv r).one fun t r => .ok [.near (decide (s = "next")) k t] r
      else if s = "open" then nam r fun k r => nums r fun n r => if n = 0 ∨ n > 6 ∨ n < -6 then .bad else (Q .inner lv r).one fun t r => .ok [.nth k t n] r
      else if s = "later" ∨ s = "earlier" then beg "(" lv r fun r => (Q .two (lv + 1) r).duo fun t u r => .ok [.pick (decide (s = "later")) t u] r
      else if s = "if" then beg "(" lv r fun r => (Q .cond (lv + 1) r).one fun c r => exp "," r fun r => (Q .two (lv + 1) r).duo fun t u r => .ok [.ite c t u] r
      else if isName s = true then .ok [.day s] r else .bad) := rfl
theorem step_unit (Q : Kd → Nat → List Str → R) (lv : Nat) (s : Str) (r : List Str) : step Q .unit lv (s :: r) = (if s = "not" then (if 100 ≤ lv then .bad else (Q .unit (lv + 1) r).one fun c r => .ok [.neg c] r)
      else if s = "yes" then .ok [.yes] r
      else if s = "?" then nam r fun x r => .ok [.flag x] r
      else if s = "is" then nam r fun k r => (Q .inner lv r).one fun t r => .ok [.isO k t] r
      else if s = "[" then (if 100 ≤ lv then .bad else (Q .cond (lv + 1) r).one fun c r => exp "]" r fun r => .ok [c] r)
      else Q .comp lv (s :: r)) := rfl
theorem step_ors (Q : Kd → Nat → List Str → R) (c : Nd) (lv : Nat) (s : Str) (r : List Str) : step Q (.ors c) lv (s :: r) = if s = "or" then (Q .both lv r).one (fun d r => Q (.ors (.disj c d)) lv r) else .ok [c] (s :: r) := rfl
theorem step_ands (Q : Kd → Nat → List Str → R) (c : Nd) (lv : Nat) (s : Str) (r : List Str) : step Q (.ands c) lv (s :: r) = if s = "and" then (Q .unit lv r).one (fun d r => Q (.ands (.conj c d)) lv r) else .ok [c] (s :: r) := rfl
theorem ne_of_dec {a b : Str} (h : decide (a = b) = false) : a ≠ b := of_decide_eq_false h
/-- a term's first token begins no other unit -/
theorem pt_first {n : Nd} (h : wk true n) : ∃ s r, pt n = s :: r ∧ s ≠ "not" ∧ s ≠ "yes" ∧ s ≠ "?" ∧ s ≠ "is" ∧ s ≠ "[" := by
  induction n with
  | day x => exact ⟨x, [], rfl, nn h (by simp [lits]), nn h (by simp [lits]), nn h (by simp [lits]), nn h (by simp [lits]), nn h (by simp [lits])⟩
  | plus t n ih =>
    obtain ⟨s, r, e, h1⟩ := ih h.1
    exact ⟨s, _, by rw [pt, e]; rfl, h1⟩
  | num n => exact ⟨"@", _, rfl, by decide +kernel, by decide +kernel, by decide +kernel, by decide +kernel, by decide +kernel⟩
  | near b k t ih => cases b <;> exact ⟨_, _, rfl, by decide +kernel, by decide +kernel, by decide +kernel, by decide +kernel, by decide +kernel⟩
  | nth k t n ih => exact ⟨"open", _, rfl, by decide +kernel, by decide +kernel, by decide +kernel, by decide +kernel, by decide +kernel⟩
  | pick b t u => cases b <;> exact ⟨_, _, rfl, by decide +kernel, by decide +kernel, by decide +kernel, by decide +kernel, by decide +kernel⟩
  | ite c t u => exact ⟨"if", _, rfl, by decide +kernel, by decide +kernel, by decide +kernel, by decide +kernel, by decide +kernel⟩
  | _ => exact h.elim
theorem rt (n : Nd) : RT n := by
  induction n with
  | day x =>
    refine rt_term (by simp [wk]) fun hw f lv X hf hl => ?_
    obtain ⟨f, rfl⟩ : ∃ g, f = g + 2 := ⟨f - 2, by unfold nd depth size at hf; omega⟩
    refine atom_term ?_
    show step (P f) .atom lv (x :: X) = _
    rw [step_atom, if_neg (nn hw (by simp [lits])), if_neg (nn hw (by simp [lits])), if_neg (by rintro (e | e) <;> exact nn hw (by simp [lits]) e), if_neg (nn hw (by simp [lits])), if_neg (by rintro (e | e) <;> exact nn hw (by simp [lits]) e), if_neg (nn hw (by simp [lits])), if_pos (show isName x = true from hw)]
  | num n =>
    refine rt_term (by simp [wk]) fun hw f lv X hf hl => ?_
    obtain ⟨f, rfl⟩ : ∃ g, f = g + 2 := ⟨f - 2, by unfold nd depth size at hf; omega⟩
    refine atom_term ?_
    show step (P f) .atom lv (("@" : Str) :: (numT n ++ X)) = _
    rw [step_atom, if_neg (by decide +kernel), if_pos rfl, nums_T hw]
  | plus t n ih =>
    refine rt_term (by simp [wk]) fun hw f lv X hf hl => ?_
    unfold nd at hf
    simp only [depth, size] at hf hl
    show P f .term lv ((pt t ++ [sgn n, dk n.natAbs]) ++ X) = _
    rw [List.append_assoc, ih.tm hw.1 f lv _ (by unfold nd; omega) (by omega)]
    exact adds_T hw.2 t X
  | near b k t ih =>
    refine rt_term (by simp [wk]) fun hw f lv X hf hl => ?_
    unfold nd at hf
    simp only [depth, size] at hf hl
    obtain ⟨f, rfl⟩ : ∃ g, f = g + 2 := ⟨f - 2, by omega⟩
    refine atom_term ?_
    have z := inner_end ih hw.2 (f := f) (lv := lv) (X := X) (by unfold nd; omega) (by omega)
    cases b with
    | true =>
      show step (P f) .atom lv (("next" : Str) :: k :: ("(" : Str) :: ((pt t ++ [(")" : Str)]) ++ X)) = _
      rw [List.append_assoc, step_atom, if_neg (by decide +kernel), if_neg (by decide +kernel), if_pos (Or.inl rfl), nam_go hw.1]
      show (P f .inner lv (("(" : Str) :: (pt t ++ (")" : Str) :: X))).one _ = _
      rw [z, one_go, decide_eq_true rfl]
    | false =>
      show step (P f) .atom lv (("prev" : Str) :: k :: ("(" : Str) :: ((pt t ++ [(")" : Str)]) ++ X)) = _
      rw [List.append_assoc, step_atom, if_neg (by decide +kernel), if_neg (by decide +kernel), if_pos (Or.inr rfl), nam_go hw.1]
      show (P f .inner lv (("(" : Str) :: (pt t ++ (")" : Str) :: X))).one _ = _
      rw [z, one_go, decide_eq_false (by decide +kernel)]
  | nth k t n ih =>
    refine rt_term (by simp [wk]) fun hw f lv X hf hl => ?_
    unfold nd at hf
    simp only [depth, size] at hf hl
    obtain ⟨f, rfl⟩ : ∃ g, f = g + 2 := ⟨f - 2, by omega⟩
    refine atom_term ?_
    obtain ⟨h1, h2, h3, h4, h5⟩ := hw
    have z := inner_end ih h2 (f := f) (lv := lv) (X := X) (by unfold nd; omega) (by omega)
    show step (P f) .atom lv (("open" : Str) :: k :: ((numT n ++ ("(" : Str) :: (pt t ++ [(")" : Str)])) ++ X)) = _
    rw [List.append_assoc, List.cons_append, List.append_assoc, step_atom, if_neg (by decide +kernel), if_neg (by decide +kernel), if_neg (by rintro (e | e) <;> exact absurd e (by decide +kernel)), if_pos rfl, nam_go h1, nums_T ⟨by omega, by omega⟩, if_neg (by omega)]
    show (P f .inner lv (("(" : Str) :: (pt t ++ (")" : Str) :: X))).one _ = _
    rw [z, one_go]
  | pick b t u iht ihu =>
    refine rt_term (by simp [wk]) fun hw f lv X hf hl => ?_
    unfold nd at hf
    simp only [depth, size] at hf hl
    obtain ⟨f, rfl⟩ : ∃ g, f = g + 2 := ⟨f - 2, by omega⟩
    refine atom_term ?_
    have z := two_end iht ihu hw.1 hw.2 (f := f) (lv := lv + 1) (X := X) (by unfold nd; omega) (by unfold nd; omega) (by omega) (by omega)
    have ea : (pt t ++ ("," : Str) :: (pt u ++ [(")" : Str)])) ++ X = pt t ++ ("," : Str) :: (pt u ++ (")" : Str) :: X) := by simp
    cases b with
    | true =>
      show step (P f) .atom lv (("later" : Str) :: ("(" : Str) :: ((pt t ++ ("," : Str) :: (pt u ++ [(")" : Str)])) ++ X)) = _
      rw [ea, step_atom, if_neg (by decide +kernel), if_neg (by decide +kernel), if_neg (by rintro (e | e) <;> exact absurd e (by decide +kernel)), if_neg (by decide +kernel), if_pos (Or.inl rfl), beg_go (by omega), z, duo_go, decide_eq_true rfl]
    | false =>
      show step (P f) .atom lv (("earlier" : Str) :: ("(" : Str) :: ((pt t ++ ("," : Str) :: (pt u ++ [(")" : Str)])) ++ X)) = _
      rw [ea, step_atom, if_neg (by decide +kernel), if_neg (by decide +kernel), if_neg (by rintro (e | e) <;> exact absurd e (by decide +kernel)), if_neg (by decide +kernel), if_pos (Or.inr rfl), beg_go (by omega), z, duo_go, decide_eq_false (by decide +kernel)]
  | ite c t u ihc iht ihu =>
    refine rt_term (by simp [wk]) fun hw f lv X hf hl => ?_
    unfold nd at hf
    simp only [depth, size] at hf hl
    obtain ⟨f, rfl⟩ : ∃ g, f = g + 2 := ⟨f - 2, by omega⟩
    refine atom_term ?_
    obtain ⟨h1, h2, h3⟩ := hw
    have z := two_end iht ihu h2 h3 (f := f) (lv := lv + 1) (X := X) (by unfold nd; omega) (by unfold nd; omega) (by omega) (by omega)
    have ea : (pt c ++ ("," : Str) :: (pt t ++ ("," : Str) :: (pt u ++ [(")" : Str)]))) ++ X = pt c ++ ("," : Str) :: (pt t ++ ("," : Str) :: (pt u ++ (")" : Str) :: X)) := by simp
    show step (P f) .atom lv (("if" : Str) :: ("(" : Str) :: ((pt c ++ ("," : Str) :: (pt t ++ ("," : Str) :: (pt u ++ [(")" : Str)]))) ++ X)) = _
    rw [ea, step_atom, if_neg (by decide +kernel), if_neg (by decide +kernel), if_neg (by rintro (e | e) <;> exact absurd e (by decide +kernel)), if_neg (by decide +kernel), if_neg (by rintro (e | e) <;> exact absurd e (by decide +kernel)), if_pos rfl, beg_go (by omega)]
    rw [co_end ihc h1 (by unfold nd; omega) (by omega) (nf_cm _) (fun e => absurd (show ("," : Str) = "and" from e) (by decide +kernel)) (fun e => absurd (show ("," : Str) = "or" from e) (by decide +kernel)), one_go, exp_go, z, duo_go]
  | le t u iht ihu =>
    refine rt_unit (by simp [wk]) rfl fun hw f lv X hf hl hX => ?_
    unfold nd at hf
    simp only [depth, size] at hf hl
    obtain ⟨f, rfl⟩ : ∃ g, f = g + 2 := ⟨f - 2, by omega⟩
    obtain ⟨s, r, e, n1, n2, n3, n4, n5⟩ := pt_first hw.1
    have ea : pt (.le t u) ++ X = pt t ++ ("<=" : Str) :: (pt u ++ X) := by simp [pt]
    rw [ea]
    have es : pt t ++ ("<=" : Str) :: (pt u ++ X) = s :: (r ++ ("<=" : Str) :: (pt u ++ X)) := by rw [e]; rfl
    show step (P (f + 1)) .unit lv _ = _
    rw [es, step_unit, if_neg n1, if_neg n2, if_neg n3, if_neg n4, if_neg n5, ← es]
    show step (P f) .comp lv _ = _
    simp only [step]
    rw [tm_end iht hw.1 (by unfold nd; omega) (by omega) (nf_le _), one_go]
    show (if ("<=" : Str) = "<=" ∨ ("<=" : Str) = "<" ∨ ("<=" : Str) = "=" then (P f .term lv (pt u ++ X)).one (fun u r => .ok [relN "<=" t u] r) else R.bad) = _
    rw [if_pos (Or.inl rfl), tm_end ihu hw.2 (by unfold nd; omega) (by omega) hX, one_go]
    have er : relN "<=" t u = .le t u := by
      unfold relN
      rw [if_neg (by decide +kernel), if_neg (by decide +kernel)]
    rw [er]
  | isO k t ih =>
    refine rt_unit (by simp [wk]) rfl fun hw f lv X hf hl hX => ?_
    unfold nd at hf
    simp only [depth, size] at hf hl
    obtain ⟨f, rfl⟩ : ∃ g, f = g + 1 := ⟨f - 1, by omega⟩
    have z := inner_end ih hw.2 (f := f) (lv := lv) (X := X) (by unfold nd; omega) (by omega)
    show step (P f) .unit lv (("is" : Str) :: k :: ("(" : Str) :: ((pt t ++ [(")" : Str)]) ++ X)) = _
    rw [List.append_assoc, step_unit, if_neg (by decide +kernel), if_neg (by decide +kernel), if_neg (by decide +kernel), if_pos rfl, nam_go hw.1]
    show (P f .inner lv (("(" : Str) :: (pt t ++ (")" : Str) :: X))).one _ = _
    rw [z, one_go]
  | flag x =>
    refine rt_unit (by simp [wk]) rfl fun hw f lv X hf hl hX => ?_
    obtain ⟨f, rfl⟩ : ∃ g, f = g + 1 := ⟨f - 1, by unfold nd depth size at hf; omega⟩
    show step (P f) .unit lv (("?" : Str) :: x :: X) = _
    rw [step_unit, if_neg (by decide +kernel), if_neg (by decide +kernel), if_pos rfl, nam_go hw]
  | yes =>
    refine rt_unit (by simp [wk]) rfl fun hw f lv X hf hl hX => ?_
    obtain ⟨f, rfl⟩ : ∃ g, f = g + 1 := ⟨f - 1, by unfold nd depth size at hf; omega⟩
    show step (P f) .unit lv (("yes" : Str) :: X) = _
    rw [step_unit, if_neg (by decide +kernel), if_pos rfl]
  | neg c ih =>
    refine rt_unit (by simp [wk]) rfl fun hw f lv X hf hl hX => ?_
    unfold nd at hf
    simp only [depth, size] at hf hl
    have := depth_pos c
    obtain ⟨f, rfl⟩ : ∃ g, f = g + 1 := ⟨f - 1, by omega⟩
    show step (P f) .unit lv (("not" : Str) :: (br (isAO c) (pt c) ++ X)) = _
    rw [step_unit, if_pos rfl, if_neg (by omega), ua_end ih hw (by unfold nd; omega) (by omega) hX, one_go]
  | conj c d ihc ihd =>
    have hb : wk false (.conj c d) → ∀ f lv X, nd (.conj c d) ≤ f → lv + 2 * depth (.conj c d) ≤ 100 → nf X → P (f + 1) .both lv (pt (.conj c d) ++ X) = P (f - ka (.conj c d)) (.ands (.conj c d)) lv X := fun hw f lv X hf hl hX => by
      unfold nd at hf
      simp only [depth, size] at hf hl
      have ea : pt (.conj c d) ++ X = br (isOr c) (pt c) ++ ("and" : Str) :: (br (isAO d) (pt d) ++ X) := by simp [pt]
      rw [ea]
      have kc := ka_lt c
      -- one turn of the ands
      have turn : ∀ g, nd d + 3 ≤ g → P (g + 1) (.ands c) lv (("and" : Str) :: (br (isAO d) (pt d) ++ X)) = P g (.ands (.conj c d)) lv X := fun g hg => by
        have e0 : P (g + 1) (.ands c) lv (("and" : Str) :: (br (isAO d) (pt d) ++ X)) = (P g .unit lv (br (isAO d) (pt d) ++ X)).one fun d r => P g (.ands (.conj c d)) lv r := (step_ands (P g) c lv _ _).trans (if_pos rfl)
        rw [e0, ua_end ihd hw.2 hg (by omega) hX, one_go]
      cases e : isOr c with
      | false =>
        have ek : ka (.conj c d) = ka c + 1 := by
          show (if isOr c = true then 0 else ka c) + 1 = _
          rw [e]; rfl
        rw [show br false (pt c) = pt c from rfl, ihc.bo hw.1 e f lv _ (by unfold nd; omega) (by omega) (nf_and _), ek]
        obtain ⟨g, eg⟩ : ∃ g, f - ka c = g + 1 := ⟨f - ka c - 1, by omega⟩
        rw [eg, turn g (by unfold nd; omega), show f - (ka c + 1) = g by omega]
      | true =>
        have ek : ka (.conj c d) = 1 := by
          show (if isOr c = true then 0 else ka c) + 1 = _
          rw [e]; rfl
        rw [ek]
        have eb : br true (pt c) ++ ("and" : Str) :: (br (isAO d) (pt d) ++ X) = ("[" : Str) :: (pt c ++ ("]" : Str) :: ("and" : Str) :: (br (isAO d) (pt d) ++ X)) := by simp [br]
        rw [eb]
        show (P f .unit lv _).one _ = _
        rw [bk_end ihc hw.1 (by unfold nd; omega) (by omega), one_go]
        obtain ⟨g, rfl⟩ : ∃ g, f = g + 1 := ⟨f - 1, by omega⟩
        exact turn g (by unfold nd; omega)
    exact ⟨fun h => h.elim, fun _ h => (by cases h), fun hw _ => hb hw, fun hw => co_both rfl (hb hw)⟩
  | disj c d ihc ihd =>
    refine ⟨fun h => h.elim, fun _ h => (by cases h), fun _ h => (by cases h), fun hw f lv X hf hl hX ha => ?_⟩
    unfold nd at hf
    simp only [depth, size] at hf hl
    have ea : pt (.disj c d) ++ X = pt c ++ ("or" : Str) :: (br (isOr d) (pt d) ++ X) := by simp [pt]
    rw [ea]
    have kc := ko_lt c
    rw [ihc.co hw.1 f lv _ (by unfold nd; omega) (by omega) (nf_or _) (fun e => absurd (show ("or" : Str) = "and" from e) (by decide +kernel))]
    obtain ⟨g, eg⟩ : ∃ g, f - ko c = g + 1 := ⟨f - ko c - 1, by omega⟩
    have e0 : P (g + 1) (.ors c) lv (("or" : Str) :: (br (isOr d) (pt d) ++ X)) = (P g .both lv (br (isOr d) (pt d) ++ X)).one fun d r => P g (.ors (.disj c d)) lv r := (step_ors (P g) c lv _ _).trans (if_pos rfl)
    rw [eg, e0, bo_end ihd hw.2 (by unfold nd; omega) (by omega) hX ha, one_go]
    show _ = P (f - (ko c + 1)) _ lv X
    rw [show f - (ko c + 1) = g by omega]
end KM

namespace KM
open PySem

/-! ### the plain text, by its signs -/
def nx (n : Int) : List Nat := if n < 0 then 45 :: TL.numL n.natAbs else TL.numL n.natAbs
def bx (b : Bool) (l : List Nat) : List Nat := if b = true then 91 :: (l ++ [93]) else l
def px : Nd → List Nat
  | .day x => tl x
  | .num n => 64 :: nx n
  | .plus t n => px t ++ 32 :: (if n < 0 then 45 else 43) :: 32 :: TL.numL n.natAbs
  | .near b k t => tl (if b = true then ("next" : Str) else "prev") ++ 32 :: (tl k ++ 40 :: (px t ++ [41]))
  | .nth k t n => tl ("open" : Str) ++ 32 :: (tl k ++ 32 :: (nx n ++ 40 :: (px t ++ [41])))
  | .pick b t u => tl (if b = true then ("later" : Str) else "earlier") ++ 40 :: (px t ++ 44 :: 32 :: (px u ++ [41]))
  | .ite c t u => tl ("if" : Str) ++ 40 :: (px c ++ 44 :: 32 :: (px t ++ 44 :: 32 :: (px u ++ [41])))
  | .le t u => px t ++ 32 :: 60 :: 61 :: 32 :: px u
  | .isO k t => tl ("is" : Str) ++ 32 :: (tl k ++ 40 :: (px t ++ [41]))
  | .flag x => 63 :: tl x
  | .yes => tl ("yes" : Str)
  | .neg c => tl ("not" : Str) ++ 32 :: bx (isAO c) (px c)
  | .conj c d => bx (isOr c) (px c) ++ 32 :: (tl ("and" : Str) ++ 32 :: bx (isAO d) (px d))
  | .disj c d => px c ++ 32 :: (tl ("or" : Str) ++ 32 :: bx (isOr d) (px d))

/-! ### what a cutter of tokens does -/
def na (r : List Nat) : Prop := ∀ c q, r = c :: q → al c = false
theorem na_cons {c : Nat} {r : List Nat} (h : al c = false) : na (c :: r) := fun d q e => by injection e with e1 e2; rw [← e1]; exact h
theorem na_nil : na [] := fun _ _ e => by cases e
structure Cut (F : List Nat → Option (List Str)) : Prop where
  nil : F [] = some []
  sp : ∀ r, F (32 :: r) = F r
  mark : ∀ c r, mk c = true → c ≠ 60 → F (c :: r) = (F r).map (⟨#[c]⟩ :: ·)
  leq : ∀ r, F (60 :: 61 :: r) = (F r).map (⟨#[60, 61]⟩ :: ·)
  word : ∀ c w r, sm c = true → w.all al = true → na r → F (c :: (w ++ r)) = (F r).map (⟨(c :: w).toArray⟩ :: ·)
  digs : ∀ c w r, dg c = true → w.all dg = true → na r → F (c :: (w ++ r)) = (F r).map (⟨(c :: w).toArray⟩ :: ·)
def Cuts (F : List Nat → Option (List Str)) (l : List Nat) (ts : List Str) : Prop := ∀ r, na r → F (l ++ r) = (F r).map (ts ++ ·)
section
variable {F : List Nat → Option (List Str)} (C : Cut F)
theorem Cuts.cast {l : List Nat} {ts us : List Str} (h : Cuts F l ts) (e : ts = us) : Cuts F l us := e ▸ h
theorem cuts_nil : Cuts F [] [] := fun r _ => by
  show F r = (F r).map (fun x => x)
  simp
theorem cuts_app {l m : List Nat} {ts us : List Str} (h : Cuts F l ts) (hm : ∀ r, na r → na (m ++ r)) (k : Cuts F m us) : Cuts F (l ++ m) (ts ++ us) := fun r hr => by
  rw [List.append_assoc, h _ (hm r hr), k r hr, Option.map_map]
  congr 1
  funext x
  show ts ++ (us ++ x) = (ts ++ us) ++ x
  rw [List.append_assoc]
include C
theorem cuts_sp {l : List Nat} {ts : List Str} (h : Cuts F l ts) : Cuts F (32 :: l) ts := fun r hr => by
  show F (32 :: (l ++ r)) = _
  rw [C.sp]; exact h r hr
theorem cuts_mk {c : Nat} {s : Str} {l : List Nat} {ts : List Str} (hc : mk c = true) (h60 : c ≠ 60) (hs : (⟨#[c]⟩ : Str) = s) (h : Cuts F l ts) : Cuts F (c :: l) (s :: ts) := fun r hr => by
  show F (c :: (l ++ r)) = _
  rw [C.mark c _ hc h60, h r hr, Option.map_map, hs]
  rfl
theorem cuts_le {l : List Nat} {ts : List Str} (h : Cuts F l ts) : Cuts F (60 :: 61 :: l) (("<=" : Str) :: ts) := fun r hr => by
  show F (60 :: 61 :: (l ++ r)) = _
  rw [C.leq, h r hr, Option.map_map, show (⟨#[60, 61]⟩ : Str) = "<=" by decide +kernel]
  rfl
theorem cuts_word {x : Str} (h : ∃ c w, tl x = c :: w ∧ sm c = true ∧ w.all al = true) : Cuts F (tl x) [x] := fun r hr => by
  obtain ⟨c, w, e, h1, h2⟩ := h
  rw [e]
  show F (c :: (w ++ r)) = _
  rw [C.word c w r h1 h2 hr, ← e]
  rfl
theorem cuts_num (n : Nat) : Cuts F (TL.numL n) [dk n] := fun r hr => by
  have hd := all_dg (TL.numL_digits n)
  unfold dk
  cases e : TL.numL n with
  | nil => exact absurd e (TL.numL_ne n)
  | cons c w =>
    rw [e] at hd
    simp only [List.all_cons, Bool.and_eq_true] at hd
    show F (c :: (w ++ r)) = _
    rw [C.digs c w r hd.1 hd.2 hr]
    rfl
end
theorem name_word {x : Str} (h : isName x = true) : ∃ c w, tl x = c :: w ∧ sm c = true ∧ w.all al = true := by
  unfold isName at h
  simp only [Bool.and_eq_true] at h
  obtain ⟨_, _, _, h1, h2⟩ := h
  cases e : tl x with
  | nil => rw [e] at h1; cases h1
  | cons c w =>
    rw [e] at h1 h2
    simp only [List.all_cons, Bool.and_eq_true] at h2
    exact ⟨c, w, rfl, h1, h2.2⟩
theorem lit_word {x : Str} (h : (match tl x with | c :: w => sm c && w.all al | [] => false) = true) : ∃ c w, tl x = c :: w ∧ sm c = true ∧ w.all al = true := by
  cases e : tl x with
  | nil => rw [e] at h; cases h
  | cons c w =>
    rw [e] at h
    exact ⟨c, w, rfl, (Bool.and_eq_true_iff.mp h).1, (Bool.and_eq_true_iff.mp h).2⟩
theorem na_sp (l : List Nat) : ∀ r, na r → na ((32 :: l) ++ r) := fun r _ => na_cons (by decide)
theorem na_lp (l : List Nat) : ∀ r, na r → na ((40 :: l) ++ r) := fun r _ => na_cons (by decide)
theorem na_rp (l : List Nat) : ∀ r, na r → na ((41 :: l) ++ r) := fun r _ => na_cons (by decide)
theorem na_cm (l : List Nat) : ∀ r, na r → na ((44 :: l) ++ r) := fun r _ => na_cons (by decide)
theorem na_rb (l : List Nat) : ∀ r, na r → na ((93 :: l) ++ r) := fun r _ => na_cons (by decide)
section
variable {F : List Nat → Option (List Str)} (C : Cut F)
include C
theorem cuts_lp {l : List Nat} {ts : List Str} (h : Cuts F l ts) : Cuts F (40 :: l) (("(" : Str) :: ts) := cuts_mk C (by decide) (by decide) (by decide +kernel) h
theorem cuts_rp {l : List Nat} {ts : List Str} (h : Cuts F l ts) : Cuts F (41 :: l) ((")" : Str) :: ts) := cuts_mk C (by decide) (by decide) (by decide +kernel) h
theorem cuts_cm {l : List Nat} {ts : List Str} (h : Cuts F l ts) : Cuts F (44 :: l) (("," : Str) :: ts) := cuts_mk C (by decide) (by decide) (by decide +kernel) h
theorem cuts_mi {l : List Nat} {ts : List Str} (h : Cuts F l ts) : Cuts F (45 :: l) (("-" : Str) :: ts) := cuts_mk C (by decide) (by decide) (by decide +kernel) h
theorem cuts_pl {l : List Nat} {ts : List Str} (h : Cuts F l ts) : Cuts F (43 :: l) (("+" : Str) :: ts) := cuts_mk C (by decide) (by decide) (by decide +kernel) h
theorem cuts_nx (n : Int) : Cuts F (nx n) (numT n) := by
  unfold nx numT
  split
  · exact cuts_mi C (cuts_num C _)
  · exact cuts_num C _
theorem cuts_in {l : List Nat} {ts : List Str} (h : Cuts F l ts) : Cuts F (40 :: (l ++ [41])) (("(" : Str) :: (ts ++ [(")" : Str)])) := cuts_lp C (cuts_app h (na_rp []) (cuts_rp C cuts_nil))
theorem cuts_bx {b : Bool} {l : List Nat} {ts : List Str} (h : Cuts F l ts) : Cuts F (bx b l) (br b ts) := by
  cases b with
  | false => exact h
  | true => exact cuts_mk C (by decide) (by decide) (show (⟨#[91]⟩ : Str) = "[" by decide +kernel) (cuts_app h (na_rb []) (cuts_mk C (by decide) (by decide) (show (⟨#[93]⟩ : Str) = "]" by decide +kernel) cuts_nil))
theorem cuts_px : ∀ (n : Nd) (b : Bool), wk b n → Cuts F (px n) (pt n)
  | .day x, true, h => cuts_word C (name_word h)
  | .num n, true, h => cuts_mk C (by decide) (by decide) (show (⟨#[64]⟩ : Str) = "@" by decide +kernel) (cuts_nx C n)
  | .plus t n, true, h => by
    have ih := cuts_px t true h.1
    unfold px pt sgn
    split
    · exact cuts_app ih (na_sp _) (cuts_sp C (cuts_mi C (cuts_sp C (cuts_num C _))))
    · exact cuts_app ih (na_sp _) (cuts_sp C (cuts_pl C (cuts_sp C (cuts_num C _))))
  | .near b k t, true, h => by
    have ih := cuts_px t true h.2
    cases b with
    | true => exact cuts_app (cuts_word C (lit_word (x := "next") (by decide +kernel))) (na_sp _) (cuts_sp C (cuts_app (cuts_word C (name_word h.1)) (na_lp _) (cuts_in C ih)))
    | false => exact cuts_app (cuts_word C (lit_word (x := "prev") (by decide +kernel))) (na_sp _) (cuts_sp C (cuts_app (cuts_word C (name_word h.1)) (na_lp _) (cuts_in C ih)))
  | .nth k t n, true, h => by
    have ih := cuts_px t true h.2.1
    exact cuts_app (cuts_word C (lit_word (x := "open") (by decide +kernel))) (na_sp _) (cuts_sp C (cuts_app (cuts_word C (name_word h.1)) (na_sp _) (cuts_sp C (cuts_app (cuts_nx C n) (na_lp _) (cuts_in C ih)))))
  | .pick b t u, true, h => by
    have it := cuts_px t true h.1
    have iu := cuts_px u true h.2
    have z := cuts_lp C (cuts_app it (na_cm _) (cuts_cm C (cuts_sp C (cuts_app iu (na_rp []) (cuts_rp C cuts_nil)))))
    cases b with
    | true => exact cuts_app (cuts_word C (lit_word (x := "later") (by decide +kernel))) (na_lp _) z
    | false => exact cuts_app (cuts_word C (lit_word (x := "earlier") (by decide +kernel))) (na_lp _) z
  | .ite c t u, true, h => by
    have ic := cuts_px c false h.1
    have it := cuts_px t true h.2.1
    have iu := cuts_px u true h.2.2
    exact cuts_app (cuts_word C (lit_word (x := "if") (by decide +kernel))) (na_lp _) (cuts_lp C (cuts_app ic (na_cm _) (cuts_cm C (cuts_sp C (cuts_app it (na_cm _) (cuts_cm C (cuts_sp C (cuts_app iu (na_rp []) (cuts_rp C cuts_nil)))))))))
  | .le t u, false, h => cuts_app (cuts_px t true h.1) (na_sp _) (cuts_sp C (cuts_le C (cuts_sp C (cuts_px u true h.2))))
  | .isO k t, false, h => cuts_app (cuts_word C (lit_word (x := "is") (by decide +kernel))) (na_sp _) (cuts_sp C (cuts_app (cuts_word C (name_word h.1)) (na_lp _) (cuts_in C (cuts_px t true h.2))))
  | .flag x, false, h => cuts_mk C (by decide) (by decide) (show (⟨#[63]⟩ : Str) = "?" by decide +kernel) (cuts_word C (name_word h))
  | .yes, false, _ => cuts_word C (lit_word (x := "yes") (by decide +kernel))
  | .neg c, false, h => cuts_app (cuts_word C (lit_word (x := "not") (by decide +kernel))) (na_sp _) (cuts_sp C (cuts_bx C (cuts_px c false h)))
  | .conj c d, false, h => cuts_app (cuts_bx C (cuts_px c false h.1)) (na_sp _) (cuts_sp C (cuts_app (cuts_word C (lit_word (x := "and") (by decide +kernel))) (na_sp _) (cuts_sp C (cuts_bx C (cuts_px d false h.2)))))
  | .disj c d, false, h => cuts_app (cuts_px c false h.1) (na_sp _) (cuts_sp C (cuts_app (cuts_word C (lit_word (x := "or") (by decide +kernel))) (na_sp _) (cuts_sp C (cuts_bx C (cuts_px d false h.2)))))
  | .day _, false, h => h.elim | .num _, false, h => h.elim | .plus _ _, false, h => h.elim | .near _ _ _, false, h => h.elim | .nth _ _ _, false, h => h.elim | .pick _ _ _, false, h => h.elim | .ite _ _ _, false, h => h.elim
  | .le _ _, true, h => h.elim | .isO _ _, true, h => h.elim | .flag _, true, h => h.elim | .yes, true, h => h.elim | .neg _, true, h => h.elim | .conj _ _, true, h => h.elim | .disj _ _, true, h => h.elim
theorem cut_px {n : Nd} {b : Bool} (h : wk b n) : F (px n) = some (pt n) := by
  have z := cuts_px C n b h [] na_nil
  rw [List.append_nil, C.nil] at z
  simpa using z
end

/-! ### the program's cutter -/
def scan : Nat → List Nat → Option (List Str)
  | 0, _ => some []
  | _ + 1, [] => some []
  | n + 1, c :: r => if c = 32 then scan n r
    else if mk c = true then (if c = 60 ∧ r.head? = some 61 then (scan n r.tail).map (⟨#[60, 61]⟩ :: ·) else (scan n r).map (⟨#[c]⟩ :: ·))
    else if al c = true then (scan n (r.dropWhile al)).map (⟨(c :: r.takeWhile al).toArray⟩ :: ·) else none
theorem drop_le (p : Nat → Bool) (l : List Nat) : (l.dropWhile p).length ≤ l.length := by
  induction l with
  | nil => exact Nat.le_refl _
  | cons c r ih =>
    rw [List.dropWhile_cons]
    split
    · rw [List.length_cons]; omega
    · exact Nat.le_refl _
theorem scan_fuel : ∀ (n m : Nat) (l : List Nat), l.length ≤ n → l.length ≤ m → scan n l = scan m l
  | 0, 0, l, _, _ => rfl
  | 0, m + 1, [], _, _ => rfl
  | n + 1, 0, [], _, _ => rfl
  | n + 1, m + 1, [], _, _ => rfl
  | n + 1, m + 1, c :: r, h1, h2 => by
    rw [List.length_cons] at h1 h2
    have hd := drop_le al r
    have ht : r.tail.length ≤ r.length := by rw [List.length_tail]; omega
    unfold scan
    rw [scan_fuel n m r (by omega) (by omega), scan_fuel n m r.tail (by omega) (by omega), scan_fuel n m (r.dropWhile al) (by omega) (by omega)]
  | 0, _, c :: r, h, _ => by simp at h
  | _, 0, c :: r, _, h => by simp at h
def tk (l : List Nat) : Option (List Str) := scan l.length l
theorem tk_cons (c : Nat) (r : List Nat) : tk (c :: r) = if c = 32 then tk r
    else if mk c = true then (if c = 60 ∧ r.head? = some 61 then (tk r.tail).map (⟨#[60, 61]⟩ :: ·) else (tk r).map (⟨#[c]⟩ :: ·))
    else if al c = true then (tk (r.dropWhile al)).map (⟨(c :: r.takeWhile al).toArray⟩ :: ·) else none := by
  have hd := drop_le al r
  have ht : r.tail.length ≤ r.length := by rw [List.length_tail]; omega
  unfold tk
  rw [List.length_cons]
  conv => lhs; unfold scan
  rw [scan_fuel r.length r.tail.length r.tail ht (Nat.le_refl _), scan_fuel r.length (r.dropWhile al).length _ hd (Nat.le_refl _)]
theorem take_run {p : Nat → Bool} {w r : List Nat} (hw : w.all p = true) (hr : ∀ c q, r = c :: q → p c = false) : (w ++ r).takeWhile p = w ∧ (w ++ r).dropWhile p = r := by
  induction w with
  | nil =>
    cases r with
    | nil => exact ⟨rfl, rfl⟩
    | cons c q =>
      have e := hr c q rfl
      simp [List.takeWhile_cons, List.dropWhile_cons, e]
  | cons c w ih =>
    simp only [List.all_cons, Bool.and_eq_true] at hw
    obtain ⟨h1, h2⟩ := ih hw.2
    simp [List.takeWhile_cons, List.dropWhile_cons, hw.1, h1, h2]
theorem al_no {c : Nat} (h : al c = true) : c ≠ 32 ∧ mk c = false := by
  simp only [al, sm, dg, Bool.or_eq_true, Bool.and_eq_true, decide_eq_true_eq] at h
  refine ⟨by omega, ?_⟩
  simp only [mk, List.contains_cons, List.contains_nil, Bool.or_eq_false_iff, beq_eq_false_iff_ne, ne_eq]
  refine ⟨?_, ?_, ?_, ?_, ?_, ?_, ?_, ?_, ?_, ?_, ?_, trivial⟩ <;> omega
theorem mk_no {c : Nat} (h : mk c = true) : c ≠ 32 := fun e => by rw [e] at h; exact absurd h (by decide)
theorem tk_run {c : Nat} {w r : List Nat} (hc : al c = true) (hw : w.all al = true) (hr : na r) : tk (c :: (w ++ r)) = (tk r).map (⟨(c :: w).toArray⟩ :: ·) := by
  obtain ⟨h1, h2⟩ := al_no hc
  obtain ⟨e1, e2⟩ := take_run hw hr
  rw [tk_cons, if_neg h1, if_neg (by rw [h2]; decide), if_pos hc, e1, e2]
theorem dg_al {w : List Nat} (h : w.all dg = true) : w.all al = true := List.all_eq_true.mpr fun c hc => by
  have := List.all_eq_true.mp h c hc
  simp [al, this]
theorem cut_tk : Cut tk where
  nil := rfl
  sp := fun r => by rw [tk_cons, if_pos rfl]
  mark := fun c r h h60 => by rw [tk_cons, if_neg (mk_no h), if_pos h, if_neg (fun e => h60 e.1)]
  leq := fun r => by rw [tk_cons, if_neg (by decide), if_pos (by decide), if_pos ⟨rfl, rfl⟩]; rfl
  word := fun c w r h1 h2 hr => tk_run (by simp [al, h1]) h2 hr
  digs := fun c w r h1 h2 hr => tk_run (by simp [al, h1]) (dg_al h2) hr

/-! ### the law's cutter -/
def lscan : Nat → List Nat → List Str
  | 0, _ => []
  | _ + 1, [] => []
  | n + 1, c :: r => if sm c = true then ⟨(c :: r.takeWhile al).toArray⟩ :: lscan n (r.dropWhile al)
    else if dg c = true then ⟨(c :: r.takeWhile dg).toArray⟩ :: lscan n (r.dropWhile dg)
    else if c = 60 ∧ r.head? = some 61 then ⟨#[60, 61]⟩ :: lscan n r.tail
    else if c = 32 then lscan n r else ⟨#[c]⟩ :: lscan n r
theorem lscan_fuel : ∀ (n m : Nat) (l : List Nat), l.length ≤ n → l.length ≤ m → lscan n l = lscan m l
  | 0, 0, l, _, _ => rfl
  | 0, m + 1, [], _, _ => rfl
  | n + 1, 0, [], _, _ => rfl
  | n + 1, m + 1, [], _, _ => rfl
  | n + 1, m + 1, c :: r, h1, h2 => by
    rw [List.length_cons] at h1 h2
    have hd := drop_le al r
    have hg := drop_le dg r
    have ht : r.tail.length ≤ r.length := by rw [List.length_tail]; omega
    unfold lscan
    rw [lscan_fuel n m r (by omega) (by omega), lscan_fuel n m r.tail (by omega) (by omega), lscan_fuel n m (r.dropWhile al) (by omega) (by omega), lscan_fuel n m (r.dropWhile dg) (by omega) (by omega)]
  | 0, _, c :: r, h, _ => by simp at h
  | _, 0, c :: r, _, h => by simp at h
def lk (l : List Nat) : List Str := lscan l.length l
theorem lk_cons (c : Nat) (r : List Nat) : lk (c :: r) = if sm c = true then ⟨(c :: r.takeWhile al).toArray⟩ :: lk (r.dropWhile al)
    else if dg c = true then ⟨(c :: r.takeWhile dg).toArray⟩ :: lk (r.dropWhile dg)
    else if c = 60 ∧ r.head? = some 61 then ⟨#[60, 61]⟩ :: lk r.tail
    else if c = 32 then lk r else ⟨#[c]⟩ :: lk r := by
  have hd := drop_le al r
  have hg := drop_le dg r
  have ht : r.tail.length ≤ r.length := by rw [List.length_tail]; omega
  unfold lk
  rw [List.length_cons]
  conv => lhs; unfold lscan
  rw [lscan_fuel r.length r.tail.length r.tail ht (Nat.le_refl _), lscan_fuel r.length (r.dropWhile al).length _ hd (Nat.le_refl _), lscan_fuel r.length (r.dropWhile dg).length _ hg (Nat.le_refl _)]
theorem mk_sd {c : Nat} (h : mk c = true) : sm c = false ∧ dg c = false := by
  have z : al c = false := by
    cases e : al c with
    | false => rfl
    | true => rw [(al_no e).2] at h; cases h
  simp only [al, Bool.or_eq_false_iff] at z
  exact z
theorem dg_sm {c : Nat} (h : dg c = true) : sm c = false := by
  simp only [dg, Bool.and_eq_true, decide_eq_true_eq] at h
  cases e : sm c with
  | false => rfl
  | true =>
    simp only [sm, Bool.and_eq_true, decide_eq_true_eq] at e
    omega
theorem na_dg {r : List Nat} (h : na r) : ∀ c q, r = c :: q → dg c = false := fun c q e => by
  have := h c q e
  simp only [al, Bool.or_eq_false_iff] at this
  exact this.2
theorem cut_lk : Cut fun l => some (lk l) where
  nil := rfl
  sp := fun r => by rw [lk_cons, if_neg (by decide), if_neg (by decide), if_neg (by rintro ⟨e, _⟩; exact absurd e (by decide)), if_pos rfl]
  mark := fun c r h h60 => by
    obtain ⟨h1, h2⟩ := mk_sd h
    rw [lk_cons, if_neg (by rw [h1]; decide), if_neg (by rw [h2]; decide), if_neg (fun e => h60 e.1), if_neg (mk_no h)]; rfl
  leq := fun r => by rw [lk_cons, if_neg (by decide), if_neg (by decide), if_pos ⟨rfl, rfl⟩]; rfl
  word := fun c w r h1 h2 hr => by
    obtain ⟨e1, e2⟩ := take_run h2 hr
    rw [lk_cons, if_pos h1, e1, e2]; rfl
  digs := fun c w r h1 h2 hr => by
    obtain ⟨e1, e2⟩ := take_run h2 (na_dg hr)
    rw [lk_cons, if_neg (by rw [dg_sm h1]; decide), if_pos h1, e1, e2]; rfl
theorem tk_px {n : Nd} {b : Bool} (h : wk b n) : tk (px n) = some (pt n) := cut_px cut_tk h
theorem lk_px {n : Nd} {b : Bool} (h : wk b n) : lk (px n) = pt n := Option.some.inj (cut_px cut_lk h)
end KM

namespace KM
open PySem

/-! ### how long a plain text is -/
theorem numL7 {n : Nat} (h : n ≤ 1000000) : (TL.numL n).length ≤ 7 := TL.numL_len (by decide) (Nat.lt_of_le_of_lt h (by decide))
theorem nx8 {n : Int} (h : -1000000 ≤ n ∧ n ≤ 1000000) : (nx n).length ≤ 8 := by
  have := numL7 (n := n.natAbs) (by omega)
  unfold nx
  split
  · rw [List.length_cons]; omega
  · omega
theorem name20 {x : Str} (h : isName x = true) : (tl x).length ≤ 20 := by
  unfold isName at h
  simp only [Bool.and_eq_true, decide_eq_true_eq] at h
  exact h.2.1
theorem bx2 (b : Bool) (l : List Nat) : (bx b l).length ≤ l.length + 2 := by
  cases b
  · exact Nat.le_add_right _ _
  · show (91 :: (l ++ [93])).length ≤ _
    simp only [List.length_append, List.length_cons, List.length_nil]
    omega
theorem px_len : ∀ (n : Nd) (b : Bool), wk b n → (px n).length ≤ 60 * size n := by
  have e1 : (tl ("next" : Str)).length = 4 := by decide +kernel
  have e2 : (tl ("prev" : Str)).length = 4 := by decide +kernel
  have e3 : (tl ("open" : Str)).length = 4 := by decide +kernel
  have e4 : (tl ("later" : Str)).length = 5 := by decide +kernel
  have e5 : (tl ("earlier" : Str)).length = 7 := by decide +kernel
  have e6 : (tl ("if" : Str)).length = 2 := by decide +kernel
  have e7 : (tl ("is" : Str)).length = 2 := by decide +kernel
  have e8 : (tl ("yes" : Str)).length = 3 := by decide +kernel
  have e9 : (tl ("not" : Str)).length = 3 := by decide +kernel
  have e10 : (tl ("and" : Str)).length = 3 := by decide +kernel
  have e11 : (tl ("or" : Str)).length = 2 := by decide +kernel
  intro n
  induction n with
  | day x => intro b h; cases b; · exact h.elim
             have := name20 (x := x) h; simp only [px, size]; omega
  | num i => intro b h; cases b; · exact h.elim
             have := nx8 (n := i) h; simp only [px, size, List.length_cons]; omega
  | plus t i ih => intro b h; cases b; · exact h.elim
                   have := ih true h.1; have h2 : -1000000 ≤ i ∧ i ≤ 1000000 := h.2; have := numL7 (n := i.natAbs) (by omega)
                   simp only [px, size, List.length_append, List.length_cons]; omega
  | near fw k t ih => intro b h; cases b; · exact h.elim
                      have := ih true h.2; have := name20 h.1
                      have e : (tl (if fw = true then ("next" : Str) else "prev")).length = 4 := by split <;> assumption
                      simp only [px, size, List.length_append, List.length_cons, List.length_nil, e]; omega
  | nth k t i ih => intro b h; cases b; · exact h.elim
                    have := ih true h.2.1; have := name20 h.1; have h2 := h.2.2; have := nx8 (n := i) (by omega)
                    simp only [px, size, List.length_append, List.length_cons, List.length_nil, e3]; omega
  | pick fw t u i1 i2 => intro b h; cases b; · exact h.elim
                         have := i1 true h.1; have := i2 true h.2
                         have e : (tl (if fw = true then ("later" : Str) else "earlier")).length ≤ 7 := by split <;> omega
                         simp only [px, size, List.length_append, List.length_cons, List.length_nil]; omega
  | ite c t u i0 i1 i2 => intro b h; cases b; · exact h.elim
                          have := i0 false h.1; have := i1 true h.2.1; have := i2 true h.2.2
                          simp only [px, size, List.length_append, List.length_cons, List.length_nil, e6]; omega
  | le t u i1 i2 => intro b h; cases b; rotate_left 1; · exact h.elim
                    have := i1 true h.1; have := i2 true h.2
                    simp only [px, size, List.length_append, List.length_cons]; omega
  | isO k t ih => intro b h; cases b; rotate_left 1; · exact h.elim
                  have := ih true h.2; have := name20 h.1
                  simp only [px, size, List.length_append, List.length_cons, List.length_nil, e7]; omega
  | flag x => intro b h; cases b; rotate_left 1; · exact h.elim
              have := name20 (x := x) h; simp only [px, size, List.length_cons]; omega
  | yes => intro b h; simp only [px, size, e8]; omega
  | neg c ih => intro b h; cases b; rotate_left 1; · exact h.elim
                have := ih false h; have := bx2 (isAO c) (px c)
                simp only [px, size, List.length_append, List.length_cons, e9]; omega
  | conj c d i1 i2 => intro b h; cases b; rotate_left 1; · exact h.elim
                      have := i1 false h.1; have := i2 false h.2; have := bx2 (isOr c) (px c); have := bx2 (isAO d) (px d)
                      simp only [px, size, List.length_append, List.length_cons, e10]; omega
  | disj c d i1 i2 => intro b h; cases b; rotate_left 1; · exact h.elim
                      have := i1 false h.1; have := i2 false h.2; have := bx2 (isOr d) (px d)
                      simp only [px, size, List.length_append, List.length_cons, e11]; omega
/-! ### weights of a plain row -/
theorem wsum_cons (g : Str → Nat) (s : Str) (r : List Str) : wsum g (s :: r) = g s + wsum g r := rfl
theorem wsum_br (g : Str → Nat) (b : Bool) (l : List Str) : wsum g (br b l) ≤ g "[" + wsum g l + g "]" := by
  cases b
  · show wsum g l ≤ _; omega
  · show wsum g (("[" : Str) :: (l ++ [("]" : Str)])) ≤ _
    rw [wsum_cons, wsum_app, wsum_cons]
    show _ + (_ + (_ + 0)) ≤ _
    omega
/-- a weight under which names and numbers weigh nothing -/
structure Wt (g : Str → Nat) : Prop where
  nm : ∀ x, isName x = true → g x = 0
  dg : ∀ n, g (dk n) = 0
  zr : ∀ s ∈ (["@", "-", "+", ",", ")", "]", "next", "prev", "open", "later", "earlier", "if", "<=", "is", "?", "yes"] : List Str), g s = 0
theorem wsum_numT {g : Str → Nat} (w : Wt g) (n : Int) : wsum g (numT n) = 0 := by
  have h1 := w.zr "-" (by decide +kernel)
  have h2 := w.dg n.natAbs
  unfold numT
  split
  · rw [wsum_cons, wsum_cons, h1, h2]; rfl
  · rw [wsum_cons, h2]; rfl
def F (c : Nat) : Nat → Nat
  | 0 => 0
  | 1 => 0
  | d + 2 => c + 3 * F c (d + 1)
theorem F_succ {c d : Nat} (h : 1 ≤ d) : F c (d + 1) = c + 3 * F c d := by
  obtain ⟨e, rfl⟩ : ∃ e, d = e + 1 := ⟨d - 1, by omega⟩
  rfl
theorem w_bound {g : Str → Nat} (w : Wt g) {c : Nat} (c1 : g "(" ≤ c) (c2 : g "not" + g "[" ≤ c) (c3 : 2 * g "[" + g "and" ≤ c) (c4 : g "[" + g "or" ≤ c) : ∀ (n : Nd) (d : Nat) (b : Bool), depth n ≤ d → wk b n → wsum g (pt n) ≤ F c d := by
  have z1 := w.zr "@" (by decide +kernel)
  have z2 := w.zr "-" (by decide +kernel)
  have z3 := w.zr "+" (by decide +kernel)
  have z4 := w.zr "," (by decide +kernel)
  have z5 := w.zr ")" (by decide +kernel)
  have z6 := w.zr "]" (by decide +kernel)
  have z7 := w.zr "next" (by decide +kernel)
  have z8 := w.zr "prev" (by decide +kernel)
  have z9 := w.zr "open" (by decide +kernel)
  have z10 := w.zr "later" (by decide +kernel)
  have z11 := w.zr "earlier" (by decide +kernel)
  have z12 := w.zr "if" (by decide +kernel)
  have z13 := w.zr "<=" (by decide +kernel)
  have z14 := w.zr "is" (by decide +kernel)
  have z15 := w.zr "?" (by decide +kernel)
  have z16 := w.zr "yes" (by decide +kernel)
  have z0 : wsum g [] = 0 := rfl
  intro n
  induction n with
  | day x => intro d b hd h; cases b; · exact h.elim
             have := w.nm x h; simp only [pt, wsum_cons, z0]; omega
  | num i => intro d b hd h; have := wsum_numT w i; simp only [pt, wsum_cons]; omega
  | plus t i ih =>
    intro d b hd h; cases b; · exact h.elim
    have hd' : depth t + 1 ≤ d := hd
    have hp := depth_pos t
    obtain ⟨e, rfl⟩ : ∃ e, d = e + 1 := ⟨d - 1, by omega⟩
    have := ih e true (by omega) h.1
    have hs : g (sgn i) = 0 := by unfold sgn; split <;> assumption
    have hk := w.dg i.natAbs
    rw [F_succ (by omega)]
    simp only [pt, wsum_app, wsum_cons, z0]
    omega
  | near fw k t ih =>
    intro d b hd h; cases b; · exact h.elim
    have hd' : depth t + 1 ≤ d := hd
    have hp := depth_pos t
    obtain ⟨e, rfl⟩ : ∃ e, d = e + 1 := ⟨d - 1, by omega⟩
    have := ih e true (by omega) h.2
    have hs : g (if fw = true then ("next" : Str) else "prev") = 0 := by split <;> assumption
    have hk := w.nm k h.1
    rw [F_succ (by omega)]
    simp only [pt, wsum_app, wsum_cons, z0]
    omega
  | nth k t i ih =>
    intro d b hd h; cases b; · exact h.elim
    have hd' : depth t + 1 ≤ d := hd
    have hp := depth_pos t
    obtain ⟨e, rfl⟩ : ∃ e, d = e + 1 := ⟨d - 1, by omega⟩
    have := ih e true (by omega) h.2.1
    have hk := w.nm k h.1
    have hi := wsum_numT w i
    rw [F_succ (by omega)]
    simp only [pt, wsum_app, wsum_cons, z0]
    omega
  | pick fw t u i1 i2 =>
    intro d b hd h; cases b; · exact h.elim
    have hd' : max (depth t) (depth u) + 1 ≤ d := hd
    have hp := depth_pos t
    obtain ⟨e, rfl⟩ : ∃ e, d = e + 1 := ⟨d - 1, by omega⟩
    have := i1 e true (by omega) h.1
    have := i2 e true (by omega) h.2
    have hs : g (if fw = true then ("later" : Str) else "earlier") = 0 := by split <;> assumption
    rw [F_succ (by omega)]
    simp only [pt, wsum_app, wsum_cons, z0]
    omega
  | ite q t u i0 i1 i2 =>
    intro d b hd h; cases b; · exact h.elim
    have hd' : max (depth q) (max (depth t) (depth u)) + 1 ≤ d := hd
    have hp := depth_pos t
    obtain ⟨e, rfl⟩ : ∃ e, d = e + 1 := ⟨d - 1, by omega⟩
    have := i0 e false (by omega) h.1
    have := i1 e true (by omega) h.2.1
    have := i2 e true (by omega) h.2.2
    rw [F_succ (by omega)]
    simp only [pt, wsum_app, wsum_cons, z0]
    omega
  | le t u i1 i2 =>
    intro d b hd h; cases b; rotate_left 1; · exact h.elim
    have hd' : max (depth t) (depth u) + 1 ≤ d := hd
    have hp := depth_pos t
    obtain ⟨e, rfl⟩ : ∃ e, d = e + 1 := ⟨d - 1, by omega⟩
    have := i1 e true (by omega) h.1
    have := i2 e true (by omega) h.2
    rw [F_succ (by omega)]
    simp only [pt, wsum_app, wsum_cons, z0]
    omega
  | isO k t ih =>
    intro d b hd h; cases b; rotate_left 1; · exact h.elim
    have hd' : depth t + 1 ≤ d := hd
    have hp := depth_pos t
    obtain ⟨e, rfl⟩ : ∃ e, d = e + 1 := ⟨d - 1, by omega⟩
    have := ih e true (by omega) h.2
    have hk := w.nm k h.1
    rw [F_succ (by omega)]
    simp only [pt, wsum_app, wsum_cons, z0]
    omega
  | flag x => intro d b hd h; cases b; rotate_left 1; · exact h.elim
              have := w.nm x h; simp only [pt, wsum_cons, z0]; omega
  | yes => intro d b hd h; simp only [pt, wsum_cons, z0]; omega
  | neg q ih =>
    intro d b hd h; cases b; rotate_left 1; · exact h.elim
    have hd' : depth q + 1 ≤ d := hd
    have hp := depth_pos q
    obtain ⟨e, rfl⟩ : ∃ e, d = e + 1 := ⟨d - 1, by omega⟩
    have := ih e false (by omega) h
    have := wsum_br g (isAO q) (pt q)
    rw [F_succ (by omega)]
    simp only [pt, wsum_app, wsum_cons, z0]
    omega
  | conj q r i1 i2 =>
    intro d b hd h; cases b; rotate_left 1; · exact h.elim
    have hd' : max (depth q) (depth r) + 1 ≤ d := hd
    have hp := depth_pos q
    obtain ⟨e, rfl⟩ : ∃ e, d = e + 1 := ⟨d - 1, by omega⟩
    have := i1 e false (by omega) h.1
    have := i2 e false (by omega) h.2
    have := wsum_br g (isOr q) (pt q)
    have := wsum_br g (isAO r) (pt r)
    rw [F_succ (by omega)]
    simp only [pt, wsum_app, wsum_cons, z0]
    omega
  | disj q r i1 i2 =>
    intro d b hd h; cases b; rotate_left 1; · exact h.elim
    have hd' : max (depth q) (depth r) + 1 ≤ d := hd
    have hp := depth_pos q
    obtain ⟨e, rfl⟩ : ∃ e, d = e + 1 := ⟨d - 1, by omega⟩
    have := i1 e false (by omega) h.1
    have := i2 e false (by omega) h.2
    have := wsum_br g (isOr r) (pt r)
    rw [F_succ (by omega)]
    simp only [pt, wsum_app, wsum_cons, z0]
    omega
theorem if0 {p : Prop} [Decidable p] {a : Nat} (h : ¬ p) : (if p then a else 0) = 0 := if_neg h
theorem dk_no {s : Str} (hs : ((tl s).all dg && !(tl s).isEmpty) = false) (n : Nat) : dk n ≠ s := dk_ne hs
theorem wt_aok : Wt aok where
  nm := fun x h => if_neg (by rintro (e | e) <;> exact nn h (by decide +kernel) e)
  dg := fun n => if_neg (by rintro (e | e) <;> exact dk_no (by decide +kernel) n e)
  zr := by decide +kernel
theorem wt_eqw : Wt eqw where
  nm := fun x h => if_neg (fun e => nn h (by decide +kernel) e)
  dg := fun n => if_neg (fun e => dk_no (by decide +kernel) n e)
  zr := by decide +kernel
theorem wt_wtk : Wt wtk where
  nm := fun x h => by
    unfold wtk
    rw [if_neg (by rintro (e | e | e) <;> exact nn h (by decide +kernel) e), if_neg (by rintro (e | e) <;> exact nn h (by decide +kernel) e)]
  dg := fun n => by
    unfold wtk
    rw [if_neg (by rintro (e | e | e) <;> exact dk_no (by decide +kernel) n e), if_neg (by rintro (e | e) <;> exact dk_no (by decide +kernel) n e)]
  zr := by decide +kernel
theorem wts_pt {n : Nd} {b : Bool} (h : wk b n) (hd : depth n ≤ 4) : wts (pt n) ≤ 169 := w_bound wt_wtk (c := 13) (by decide +kernel) (by decide +kernel) (by decide +kernel) (by decide +kernel) n 4 b hd h
theorem aoc_pt {n : Nd} {b : Bool} (h : wk b n) (hd : depth n ≤ 4) : aoc (pt n) ≤ 13 := w_bound wt_aok (c := 1) (by decide +kernel) (by decide +kernel) (by decide +kernel) (by decide +kernel) n 4 b hd h
theorem eqs_pt {n : Nd} {b : Bool} (h : wk b n) : eqs (pt n) = 0 := by
  have := w_bound wt_eqw (c := 0) (by decide +kernel) (by decide +kernel) (by decide +kernel) (by decide +kernel) n (depth n) b (Nat.le_refl _) h
  have h0 : ∀ d, F 0 d = 0 := fun d => by
    induction d with
    | zero => rfl
    | succ d ih =>
      cases d with
      | zero => rfl
      | succ d => show 0 + 3 * F 0 (d + 1) = 0; omega
  rw [h0] at this
  exact Nat.le_zero.mp this
theorem opc_wts : ∀ ts : List Str, 6 * opc ts ≤ wts ts
  | [] => Nat.le_refl _
  | s :: r => by
    have := opc_wts r
    have h : 6 * opk s ≤ wtk s := by
      unfold opk wtk
      split
      · omega
      · omega
    rw [opc_cons, wts_cons]
    omega
theorem size_depth : ∀ (n : Nd) (d : Nat), depth n ≤ d + 1 → 2 * size n + 1 ≤ 3 ^ (d + 1) := by
  intro n
  have p3 : ∀ d : Nat, 3 ^ (d + 1) = 3 * 3 ^ d := fun d => by rw [Nat.pow_succ, Nat.mul_comm]
  have p1 : ∀ d : Nat, 1 ≤ 3 ^ d := fun d => Nat.one_le_pow _ _ (by decide)
  induction n <;> intro d hd <;> simp only [depth, size] at hd ⊢
  case day | num | flag | yes => have := p1 d; have := p3 d; omega
  case plus t i ih | nth k t i ih => have := depth_pos t; obtain ⟨e, rfl⟩ : ∃ e, d = e + 1 := ⟨d - 1, by omega⟩; have := ih e (by omega); have := p3 (e + 1); have := p1 (e + 1); omega
  case near f k t ih => have := depth_pos t; obtain ⟨e, rfl⟩ : ∃ e, d = e + 1 := ⟨d - 1, by omega⟩; have := ih e (by omega); have := p3 (e + 1); have := p1 (e + 1); omega
  case isO k t ih => have := depth_pos t; obtain ⟨e, rfl⟩ : ∃ e, d = e + 1 := ⟨d - 1, by omega⟩; have := ih e (by omega); have := p3 (e + 1); have := p1 (e + 1); omega
  case neg t ih => have := depth_pos t; obtain ⟨e, rfl⟩ : ∃ e, d = e + 1 := ⟨d - 1, by omega⟩; have := ih e (by omega); have := p3 (e + 1); have := p1 (e + 1); omega
  case pick f t u i1 i2 => have := depth_pos t; obtain ⟨e, rfl⟩ : ∃ e, d = e + 1 := ⟨d - 1, by omega⟩; have := i1 e (by omega); have := i2 e (by omega); have := p3 (e + 1); have := p1 (e + 1); omega
  case le t u i1 i2 | conj t u i1 i2 | disj t u i1 i2 => have := depth_pos t; obtain ⟨e, rfl⟩ : ∃ e, d = e + 1 := ⟨d - 1, by omega⟩; have := i1 e (by omega); have := i2 e (by omega); have := p3 (e + 1); have := p1 (e + 1); omega
  case ite c t u i0 i1 i2 => have := depth_pos t; obtain ⟨e, rfl⟩ : ∃ e, d = e + 1 := ⟨d - 1, by omega⟩; have := i0 e (by omega); have := i1 e (by omega); have := i2 e (by omega); have := p3 (e + 1); omega
theorem size4 {n : Nd} (h : depth n ≤ 4) : size n ≤ 40 := by
  have := size_depth n 3 h
  have e : 3 ^ (3 + 1) = 81 := by decide
  omega
end KM

namespace KM
open PySem

/-! ### tokens with blanks between them -/
def tkb (t : Str) : Bool := ((tl t).all al && !(tl t).isEmpty) || ((match tl t with | [c] => mk c | _ => false) || decide (t = "<="))
/-- the end, or a blank -/
def bl (r : List Nat) : Prop := r = [] ∨ ∃ q, r = 32 :: q
theorem bl_na {r : List Nat} (h : bl r) : na r := by
  rcases h with rfl | ⟨q, rfl⟩
  · exact na_nil
  · exact na_cons (by decide)
theorem tk_tok {t : Str} (h : tkb t = true) {r : List Nat} (hr : bl r) : tk (tl t ++ r) = (tk r).map (t :: ·) := by
  unfold tkb at h
  simp only [Bool.or_eq_true, Bool.and_eq_true, Bool.not_eq_true', decide_eq_true_eq] at h
  rcases h with ⟨h1, h2⟩ | h | h
  · cases e : tl t with
    | nil => rw [e] at h2; exact absurd h2 (by decide)
    | cons c w =>
      rw [e, List.all_cons, Bool.and_eq_true] at h1
      have ht : (⟨(c :: w).toArray⟩ : Str) = t := TL.ext_tl e.symm
      show tk (c :: (w ++ r)) = _
      rw [tk_run h1.1 h1.2 (bl_na hr), ht]
  · split at h
    · rename_i c e
      have ht : (⟨#[c]⟩ : Str) = t := TL.ext_tl e.symm
      rw [e]
      show tk (c :: r) = _
      rw [tk_cons, if_neg (mk_no h), if_pos h, if_neg (by
        rintro ⟨_, z⟩
        rcases hr with rfl | ⟨q, rfl⟩
        · cases z
        · exact absurd (Option.some.inj z) (by decide)), ht]
    · cases h
  · subst h
    have e : tl ("<=" : Str) = [60, 61] := by decide +kernel
    have e2 : (⟨#[60, 61]⟩ : Str) = "<=" := by decide +kernel
    rw [e]
    show tk (60 :: 61 :: r) = _
    rw [tk_cons, if_neg (by decide), if_pos (by decide), if_pos ⟨rfl, rfl⟩, e2]
    rfl
theorem tk_blank (r : List Nat) : tk (32 :: r) = tk r := by rw [tk_cons, if_pos rfl]
theorem map_map2 {o : Option (List Str)} {t : Str} {r : List Str} : (o.map (r ++ ·)).map (t :: ·) = o.map ((t :: r) ++ ·) := by cases o <;> rfl
theorem tk_join : ∀ (row : List Str), (∀ t ∈ row, tkb t = true) → (∀ m, tk (TL.joinL [32] (row.map tl) ++ 32 :: m) = (tk m).map (row ++ ·)) ∧ tk (TL.joinL [32] (row.map tl)) = some row
  | [], _ => ⟨fun m => by
      show tk (32 :: m) = _
      rw [tk_blank]
      cases tk m <;> rfl, rfl⟩
  | [t], h => by
    have ht := h t (by simp)
    refine ⟨fun m => ?_, ?_⟩
    · show tk (tl t ++ 32 :: m) = _
      rw [tk_tok ht (.inr ⟨m, rfl⟩), tk_blank]
      cases tk m <;> rfl
    · show tk (tl t) = _
      have := tk_tok ht (r := []) (.inl rfl)
      rw [List.append_nil] at this
      rw [this]; rfl
  | t :: u :: r, h => by
    have ht := h t (by simp)
    obtain ⟨i1, i2⟩ := tk_join (u :: r) (fun x hx => h x (List.mem_cons_of_mem _ hx))
    refine ⟨fun m => ?_, ?_⟩
    · show tk ((tl t ++ ([32] ++ TL.joinL [32] ((u :: r).map tl))) ++ 32 :: m) = _
      rw [List.append_assoc, List.append_assoc]
      show tk (tl t ++ 32 :: (TL.joinL [32] ((u :: r).map tl) ++ 32 :: m)) = _
      rw [tk_tok ht (.inr ⟨_, rfl⟩), tk_blank, i1, map_map2]
    · show tk (tl t ++ 32 :: TL.joinL [32] ((u :: r).map tl)) = _
      rw [tk_tok ht (.inr ⟨_, rfl⟩), tk_blank, i2]
      rfl
/-- what the program's cutter gives is such -/
theorem tk_all : ∀ (n : Nat) (l : List Nat) (row : List Str), l.length ≤ n → tk l = some row → ∀ t ∈ row, tkb t = true := by
  intro n
  induction n with
  | zero =>
    intro l row hl h
    obtain rfl := List.length_eq_zero_iff.mp (Nat.le_zero.mp hl)
    have e : ([] : List Str) = row := Option.some.inj (show some [] = some row from h)
    subst e
    exact fun t ht => absurd ht (by simp)
  | succ n ih =>
    intro l row hl h
    cases l with
    | nil =>
      have e : ([] : List Str) = row := Option.some.inj (show some [] = some row from h)
      subst e
      exact fun t ht => absurd ht (by simp)
    | cons c r =>
      rw [List.length_cons] at hl
      rw [tk_cons] at h
      have go : ∀ (q : List Nat) (s : Str), q.length ≤ r.length → tkb s = true → (tk q).map (s :: ·) = some row → ∀ t ∈ row, tkb t = true := by
        intro q s hq hs h
        cases e : tk q with
        | none => rw [e] at h; cases h
        | some row' =>
          rw [e] at h
          have e2 : s :: row' = row := Option.some.inj h
          have g := ih q row' (by omega) e
          rw [← e2]
          intro t ht
          rcases List.mem_cons.mp ht with rfl | ht
          · exact hs
          · exact g t ht
      have hd := drop_le al r
      have ht : r.tail.length ≤ r.length := by rw [List.length_tail]; omega
      split at h
      · exact ih r row (by omega) h
      · split at h
        · rename_i hm
          split at h
          · exact go _ _ ht (by decide +kernel) h
          · refine go r ⟨#[c]⟩ (Nat.le_refl _) ?_ h
            unfold tkb
            show (_ || ((match [c] with | [c] => mk c | _ => false) || _)) = true
            simp [hm]
        · split at h
          · rename_i ha
            refine go _ _ hd ?_ h
            have hw : (r.takeWhile al).all al = true := List.all_takeWhile
            unfold tkb
            show ((c :: r.takeWhile al).all al && !(c :: r.takeWhile al).isEmpty || _) = true
            rw [List.all_cons, ha, hw]
            rfl
          · cases h
/-! ### one token spoilt -/
def spoil (ch at_ : Nat) (x : Str) (ts : List Str) : List Str :=
  if ch = 0 then ts.take at_ ++ ts.drop (at_ + 1)
  else if ch = 1 then ts.take at_ ++ [x] ++ ts.drop at_
  else if ch = 2 then ts.take at_ ++ [x] ++ ts.drop (at_ + 1)
  else if ch = 3 then ts.take at_ ++ (ts.drop at_).take 1 ++ ts.drop at_
  else ts.take at_ ++ (ts.drop (at_ + 1)).take 1 ++ (ts.drop at_).take 1 ++ ts.drop (at_ + 2)
theorem mem_spoil {ch at_ : Nat} {x t : Str} {ts : List Str} (h : t ∈ spoil ch at_ x ts) : t = x ∨ t ∈ ts := by
  unfold spoil at h
  split at h
  · rcases List.mem_append.mp h with h | h
    · exact .inr (List.mem_of_mem_take h)
    · exact .inr (List.mem_of_mem_drop h)
  split at h
  · simp only [List.mem_append, List.mem_singleton] at h
    rcases h with (h | h) | h
    · exact .inr (List.mem_of_mem_take h)
    · exact .inl h
    · exact .inr (List.mem_of_mem_drop h)
  split at h
  · simp only [List.mem_append, List.mem_singleton] at h
    rcases h with (h | h) | h
    · exact .inr (List.mem_of_mem_take h)
    · exact .inl h
    · exact .inr (List.mem_of_mem_drop h)
  split at h
  · simp only [List.mem_append] at h
    rcases h with (h | h) | h
    · exact .inr (List.mem_of_mem_take h)
    · exact .inr (List.mem_of_mem_drop (List.mem_of_mem_take h))
    · exact .inr (List.mem_of_mem_drop h)
  · simp only [List.mem_append] at h
    rcases h with ((h | h) | h) | h
    · exact .inr (List.mem_of_mem_take h)
    · exact .inr (List.mem_of_mem_drop (List.mem_of_mem_take h))
    · exact .inr (List.mem_of_mem_drop (List.mem_of_mem_take h))
    · exact .inr (List.mem_of_mem_drop h)
theorem wsum_cut (g : Str → Nat) (ts : List Str) (k : Nat) : wsum g (ts.take k) + wsum g (ts.drop k) = wsum g ts := by
  rw [← wsum_app, List.take_append_drop]
theorem wsum_one (g : Str → Nat) {c : Nat} (hc : ∀ s, g s ≤ c) (l : List Str) : wsum g (l.take 1) ≤ c := by
  cases l with
  | nil => exact Nat.zero_le _
  | cons s r => show g s + 0 ≤ c; have := hc s; omega
theorem wsum_spoil (g : Str → Nat) {c : Nat} (hc : ∀ s, g s ≤ c) (ch at_ : Nat) (x : Str) (ts : List Str) : wsum g (spoil ch at_ x ts) ≤ wsum g ts + c := by
  have h0 := wsum_cut g ts at_
  have h1 := wsum_cut g ts (at_ + 1)
  have h3 := wsum_cut g (ts.drop at_) 1
  have h4 := wsum_cut g (ts.drop (at_ + 1)) 1
  rw [List.drop_drop] at h3 h4
  have hx := hc x
  have k1 := wsum_one g hc (ts.drop at_)
  have k2 := wsum_one g hc (ts.drop (at_ + 1))
  have e2 : at_ + 1 + 1 = at_ + 2 := rfl
  rw [e2] at h4
  unfold spoil
  split
  · rw [wsum_app]; omega
  split
  · rw [wsum_app, wsum_app, wsum_cons]; show _ + (_ + 0) + _ ≤ _; omega
  split
  · rw [wsum_app, wsum_app, wsum_cons]; show _ + (_ + 0) + _ ≤ _; omega
  split
  · rw [wsum_app, wsum_app]; omega
  · rw [wsum_app, wsum_app, wsum_app]; omega
theorem wsum_len (ts : List Str) : wsum (fun _ => 1) ts = ts.length := by
  induction ts with
  | nil => rfl
  | cons s r ih => rw [wsum_cons, ih, List.length_cons]; omega
theorem len_spoil (ch at_ : Nat) (x : Str) (ts : List Str) : (spoil ch at_ x ts).length ≤ ts.length + 1 := by
  have := wsum_spoil (fun _ => 1) (c := 1) (fun _ => Nat.le_refl _) ch at_ x ts
  rw [wsum_len, wsum_len] at this
  exact this
theorem wtk_le (s : Str) : wtk s ≤ 6 := by unfold wtk; split <;> (try split) <;> omega
theorem aok_le (s : Str) : aok s ≤ 1 := by unfold aok; split <;> omega
theorem eqw_le (s : Str) : eqw s ≤ 1 := by unfold eqw; split <;> omega
end KM

namespace KT
open PySem PySem.Spec
open PyProof.Rows L2

/-! ### a finer reckoning of room: one for a frame -/
structure RF (n : Nat) (A : Around) : Prop where
  hd : A.handled = none
  dp : A.depth + n + 5 < recursionLimit
  un : 3 * A.units + 16 * n + 600 < 3 * cLine
theorem RF.room {n k : Nat} {A : Around} (r : RF n A) (h : 3 * k ≤ n) : Room k A := ⟨r.hd, by have := r.dp; omega, by have := r.un; omega⟩
theorem RF.of {n k : Nat} {A : Around} (r : Room k A) (h : n ≤ 3 * k) : RF n A := ⟨r.hd, by have := r.dp; omega, by have := r.un; omega⟩
theorem RF.mono {n m : Nat} {A : Around} (r : RF n A) (h : m ≤ n) : RF m A := ⟨r.hd, by have := r.dp; omega, by have := r.un; omega⟩
theorem RF.deeper {n : Nat} {A : Around} (r : RF (n + 1) A) (env : Env) : RF n (A.deeper env) := by
  have h1 := r.dp
  have h2 := r.un
  exact ⟨r.hd, by show A.depth + 1 + n + 5 < _; omega, by show 3 * (A.units + 3) + 16 * n + 600 < _; omega⟩
/-- as FnOk, by that reckoning -/
structure FnF (P : Program) (w : World) (K : PySem.W.Frag) (mg : Str → Option Value) (base : Heap) (CX : CXT) (n : Nat) (f : Addr) (fd : FuncData) (ps : List Str) (sp : Sp) : Prop where
  len : ∀ vs H Q E, sp vs H Q E → vs.length = ps.length
  run : ∀ (A : Around) (outer : List Env) (s : Shared) (H : Hp) (args : Args) (us : List Value) (vs : List V) (Q : VK) (E : XK), RF n A → Env0 P w K mg base A outer s H →
    BindsTo s fd args (ps.zip us) → Vals vs us → sp vs H Q E → codeAny (model P w) A (.call (.ref f) args) (CR CX outer P w H s Q E) s
section
variable {P : Program} {w : World} {K : PySem.W.Frag} {mg : Str → Option Value} {base : Heap} {CX : CXT}
theorem FnF.ok {n k : Nat} {f : Addr} {fd : FuncData} {ps : List Str} {sp : Sp} (F : FnF P w K mg base CX n f fd ps sp) (h : n ≤ 3 * k) : FnOk P w K mg base CX k f fd ps sp :=
  ⟨F.len, fun A outer s H args us vs Q E hr => F.run A outer s H args us vs Q E (.of hr h)⟩
theorem FnF.mono {n m : Nat} {f : Addr} {fd : FuncData} {ps : List Str} {sp : Sp} (F : FnF P w K mg base CX n f fd ps sp) (h : n ≤ m) : FnF P w K mg base CX m f fd ps sp :=
  ⟨F.len, fun A outer s H args us vs Q E hr => F.run A outer s H args us vs Q E (hr.mono h)⟩
/-- the rule for a def, by that reckoning -/
theorem fnF_of {x qual : Str} {params : Arguments} {body : List Stmt} {scope : Scope} {f : Addr} {fd : FuncData} {N ps : List Str} {n : Nat} {sp : Sp} (F : FunD K x qual params body scope [] [] f fd) (S : FnScope N ps scope)
    (len : ∀ vs H Q E, sp vs H Q E → vs.length = ps.length)
    (hb : ∀ (cdv : Value) (A : Around) (outer : List Env) (s : Shared) (H : Hp) (vs : List V) (Q : VK) (E : XK), RF n (A.deeper (envOfC qual scope s.heap.objs.size f cdv)) → sp vs H Q E →
      ∃ t, PSs (cxOf CX P w K mg base N qual scope f cdv A outer s H E) body t ∧ t { nx := fun _ H' => Q .non H', rt := Q } (start N vs) H) : FnF P w K mg base CX (n + 1) f fd ps sp := by
  obtain ⟨oc, od, dV, kV, doc, pm, an, cdv, ct, osl, rfl, lk, code, _, _⟩ := F.ex
  constructor
  · exact len
  intro A outer s H args us vs Q E room e0 bnd rel want
  have hlen := len _ _ _ _ want
  have inK : K.In s.heap := e0.mod.kin.keeps fun b o e => (e0.bs b o e).1
  have noL : s.heap.NoLimit := e0.mod.nolimit.keeps fun b o e => (e0.bs b o e).1
  have kinds : ∀ y ∈ ps.zip us, scope.names.lookup y.1 = some .local ∨ (scope.names.lookup y.1 = some .cell ∧ ((cellsFrom (s.heap.objs.size + 1) scope.names []).lookup y.1).isSome = true) := by
    rintro ⟨a, b⟩ hy
    cases S.par a (List.of_mem_zip hy).1 with
    | inl q => exact Or.inl q
    | inr q => exact Or.inr ⟨q, PySem.W.cellsFrom_some _ _ _ (Or.inl q)⟩
  have lim : A.depth < recursionLimit := by have := room.dp; omega
  refine codeAny_call_function lim (inK _ _ lk) rfl S.co S.gen rfl (PySem.W.codeRec_of inK code) (bnd _ _ _ _ (wpAny_newFunctionEnv_cells S.kind kinds fun env eqn s1 made => ?_))
  subst eqn
  refine ⟨noL.keeps made.toInCall.keep, codeAny_func ?_⟩
  obtain ⟨t, body_ok, goal⟩ := hb cdv A outer s H vs Q E (room.deeper _) want
  have I : Inv (cxOf CX P w K mg base N qual scope f cdv A outer s H E) [] (start N vs) H s1 := inv_start S room.hd e0 hlen rel made
  refine wpAny_mono (body_ok.run [] s1 _ H _ I goal) (fun fl s' hs => ?_) fun _ _ hs => hs
  cases fl with
  | ret u =>
    obtain ⟨v, σ', H', J, rv, q⟩ := hs
    exact ⟨v, H', J.os, J.bare, J.base, J.hok, rv, q⟩
  | next =>
    obtain ⟨σ', H', J, q⟩ := hs
    exact ⟨V.non, H', J.os, J.bare, J.base, J.hok, rfl, q⟩
  | brk =>
    obtain ⟨_, _, _, q⟩ := hs
    exact q.elim
  | cont =>
    obtain ⟨_, _, _, q⟩ := hs
    exact q.elim
end
section
variable {X : Cx} {CX : CXT} {n : Nat} {f C : Addr} {fd : FuncData} {ps : List Str} {sp : Sp} {E : XK} {m : Str} {pos apos : Pos} {o : Expr} {ta : TE}
/-- o.m(), by that reckoning -/
theorem pe_meth0F {pl : Sem Bool} (ho : PE X o ta) (c : Cls X.K C) (hm : Meth X.K C m f) (F : FnF X.prog X.w X.K X.mg X.base CX n f fd ps sp) (hr : RF n X.A) (hb : Binds X.K fd ps []) (hx : Passes CX X E)
    (shape : eval (.Call (.Attribute o m apos) [] [] pos) X.env = (do
      let ov ← eval o X.env
      standAt apos.atName
      let (g, first) ← holding [ov] (getMethod ov m pl)
      callWith pos g first (backTo pos (starEach [] X.env)) (backToKw pos (keywordEach [] X.env))) := by rfl) :
    PE X (.Call (.Attribute o m apos) [] [] pos) (tMeth C m sp [] E ta tNil) := by
  constructor
  intro pins s σ H Q I h
  refine PySem.W.methodCall_KW (pl := pl) (thn (ho.run pins s σ H _ I h) fun u s1 ⟨x, H1, I1, rx, a, dx, fs, ex, ea, l, q⟩ => ?_) shape
  subst ex
  have eu : u = Value.ref a := rx
  subst eu
  refine getmeth_ok I1 ea c hm l (PySem.W.callWith_K0 (first := [Value.ref a]) I1.kIn hm.kp ?_)
  have want : sp [V.ref a] H1 Q E := q
  have hl : [Value.ref a].length = ps.length := F.len _ _ _ _ want
  have bnd := hb s1 [Value.ref a] I1.kIn hl
  refine wpAny_call (codeAny_mono (F.run X.A X.stack s1 H1 ⟨[Value.ref a], []⟩ [Value.ref a] [V.ref a] Q E hr I1.env0 bnd (.cons rfl .nil) want) fun r s' got => ?_)
  cases r with
  | error e => exact hx pins σ H1 s1 e s' I1 got
  | ok fl =>
    cases fl with
    | ret u => exact I1.after got
    | next => exact got.elim
    | brk => exact got.elim
    | cont => exact got.elim
end
end KT

namespace KT
open PySem PySem.Spec
open PyProof.Rows L2
/-- what stands behind the top -/
structure Tp (w : World) (K : PySem.W.Frag) (mg : Str → Option Value) : Prop where
  ex : ∃ h : Heap, K.In h ∧ h.Ns mainGlobals mg ∧ Says w h K
abbrev PC_ (K : PySem.W.Frag) : Addr := He.ga K "Parser"
abbrev BF_ (K : PySem.W.Frag) : Addr := He.ga K "BadForm"
abbrev TL_ (K : PySem.W.Frag) : Addr := He.ga K "TooLarge"
section
variable {w : World} {K : PySem.W.Frag} {mg : Str → Option Value} (T : Tp w K mg)
include T
theorem Tp.g_DiesError : mg "DiesError" = some (.ref (He.ga K "DiesError")) := by
  obtain ⟨h, X, G, c⟩ := T.ex
  exact He.glo_ok X G (c.t.d.fact 0 (f := .glo "DiesError") rfl)
theorem Tp.g_NotAllowed : mg "NotAllowed" = some (.ref (He.ga K "NotAllowed")) := by
  obtain ⟨h, X, G, c⟩ := T.ex
  exact He.glo_ok X G (c.t.d.fact 1 (f := .glo "NotAllowed") rfl)
theorem Tp.g_TooLarge : mg "TooLarge" = some (.ref (He.ga K "TooLarge")) := by
  obtain ⟨h, X, G, c⟩ := T.ex
  exact He.glo_ok X G (c.t.d.fact 2 (f := .glo "TooLarge") rfl)
theorem Tp.g_BadForm : mg "BadForm" = some (.ref (He.ga K "BadForm")) := by
  obtain ⟨h, X, G, c⟩ := T.ex
  exact He.glo_ok X G (c.t.d.fact 3 (f := .glo "BadForm") rfl)
theorem Tp.g_Parser : mg "Parser" = some (.ref (He.ga K "Parser")) := by
  obtain ⟨h, X, G, c⟩ := T.ex
  exact He.glo_ok X G (c.t.d.fact 4 (f := .glo "Parser") rfl)
theorem Tp.g_is_name : mg "is_name" = some (.ref (He.ga K "is_name")) := by
  obtain ⟨h, X, G, c⟩ := T.ex
  exact He.glo_ok X G (c.t.d.fact 5 (f := .glo "is_name") rfl)
theorem Tp.g_signs_of : mg "signs_of" = some (.ref (He.ga K "signs_of")) := by
  obtain ⟨h, X, G, c⟩ := T.ex
  exact He.glo_ok X G (c.t.d.fact 6 (f := .glo "signs_of") rfl)
theorem Tp.g_form_of : mg "form_of" = some (.ref (He.ga K "form_of")) := by
  obtain ⟨h, X, G, c⟩ := T.ex
  exact He.glo_ok X G (c.t.d.fact 7 (f := .glo "form_of") rfl)
theorem Tp.g_parts_of : mg "parts_of" = some (.ref (He.ga K "parts_of")) := by
  obtain ⟨h, X, G, c⟩ := T.ex
  exact He.glo_ok X G (c.t.d.fact 8 (f := .glo "parts_of") rfl)
theorem Tp.g_measure : mg "measure" = some (.ref (He.ga K "measure")) := by
  obtain ⟨h, X, G, c⟩ := T.ex
  exact He.glo_ok X G (c.t.d.fact 9 (f := .glo "measure") rfl)
theorem Tp.g_check_size : mg "check_size" = some (.ref (He.ga K "check_size")) := by
  obtain ⟨h, X, G, c⟩ := T.ex
  exact He.glo_ok X G (c.t.d.fact 10 (f := .glo "check_size") rfl)
theorem Tp.g_token_end : mg "token_end" = some (.ref (He.ga K "token_end")) := by
  obtain ⟨h, X, G, c⟩ := T.ex
  exact He.glo_ok X G (c.t.d.fact 11 (f := .glo "token_end") rfl)
theorem Tp.g_tokens : mg "tokens" = some (.ref (He.ga K "tokens")) := by
  obtain ⟨h, X, G, c⟩ := T.ex
  exact He.glo_ok X G (c.t.d.fact 12 (f := .glo "tokens") rfl)
theorem Tp.g_whole_term : mg "whole_term" = some (.ref (He.ga K "whole_term")) := by
  obtain ⟨h, X, G, c⟩ := T.ex
  exact He.glo_ok X G (c.t.d.fact 13 (f := .glo "whole_term") rfl)
theorem Tp.g_whole_condition : mg "whole_condition" = some (.ref (He.ga K "whole_condition")) := by
  obtain ⟨h, X, G, c⟩ := T.ex
  exact He.glo_ok X G (c.t.d.fact 14 (f := .glo "whole_condition") rfl)
theorem Tp.g_read_term : mg "read_term" = some (.ref (He.ga K "read_term")) := by
  obtain ⟨h, X, G, c⟩ := T.ex
  exact He.glo_ok X G (c.t.d.fact 15 (f := .glo "read_term") rfl)
theorem Tp.g_read_condition : mg "read_condition" = some (.ref (He.ga K "read_condition")) := by
  obtain ⟨h, X, G, c⟩ := T.ex
  exact He.glo_ok X G (c.t.d.fact 16 (f := .glo "read_condition") rfl)
theorem Tp.g_plus_text : mg "plus_text" = some (.ref (He.ga K "plus_text")) := by
  obtain ⟨h, X, G, c⟩ := T.ex
  exact He.glo_ok X G (c.t.d.fact 17 (f := .glo "plus_text") rfl)
theorem Tp.g_term_text : mg "term_text" = some (.ref (He.ga K "term_text")) := by
  obtain ⟨h, X, G, c⟩ := T.ex
  exact He.glo_ok X G (c.t.d.fact 18 (f := .glo "term_text") rfl)
theorem Tp.g_bracketed : mg "bracketed" = some (.ref (He.ga K "bracketed")) := by
  obtain ⟨h, X, G, c⟩ := T.ex
  exact He.glo_ok X G (c.t.d.fact 19 (f := .glo "bracketed") rfl)
theorem Tp.g_condition_text : mg "condition_text" = some (.ref (He.ga K "condition_text")) := by
  obtain ⟨h, X, G, c⟩ := T.ex
  exact He.glo_ok X G (c.t.d.fact 20 (f := .glo "condition_text") rfl)
theorem Tp.g__law_row : mg "_law_row" = some (.ref (He.ga K "_law_row")) := by
  obtain ⟨h, X, G, c⟩ := T.ex
  exact He.glo_ok X G (c.t.d.fact 21 (f := .glo "_law_row") rfl)
theorem Tp.g__law_at : mg "_law_at" = some (.ref (He.ga K "_law_at")) := by
  obtain ⟨h, X, G, c⟩ := T.ex
  exact He.glo_ok X G (c.t.d.fact 22 (f := .glo "_law_at") rfl)
theorem Tp.g__law_next : mg "_law_next" = some (.ref (He.ga K "_law_next")) := by
  obtain ⟨h, X, G, c⟩ := T.ex
  exact He.glo_ok X G (c.t.d.fact 23 (f := .glo "_law_next") rfl)
theorem Tp.g__law_term : mg "_law_term" = some (.ref (He.ga K "_law_term")) := by
  obtain ⟨h, X, G, c⟩ := T.ex
  exact He.glo_ok X G (c.t.d.fact 24 (f := .glo "_law_term") rfl)
theorem Tp.g__law_condition : mg "_law_condition" = some (.ref (He.ga K "_law_condition")) := by
  obtain ⟨h, X, G, c⟩ := T.ex
  exact He.glo_ok X G (c.t.d.fact 25 (f := .glo "_law_condition") rfl)
theorem Tp.g__law_text : mg "_law_text" = some (.ref (He.ga K "_law_text")) := by
  obtain ⟨h, X, G, c⟩ := T.ex
  exact He.glo_ok X G (c.t.d.fact 26 (f := .glo "_law_text") rfl)
theorem Tp.g__law_tokens : mg "_law_tokens" = some (.ref (He.ga K "_law_tokens")) := by
  obtain ⟨h, X, G, c⟩ := T.ex
  exact He.glo_ok X G (c.t.d.fact 27 (f := .glo "_law_tokens") rfl)
theorem Tp.g__law_word : mg "_law_word" = some (.ref (He.ga K "_law_word")) := by
  obtain ⟨h, X, G, c⟩ := T.ex
  exact He.glo_ok X G (c.t.d.fact 28 (f := .glo "_law_word") rfl)
theorem Tp.g__law_is_name : mg "_law_is_name" = some (.ref (He.ga K "_law_is_name")) := by
  obtain ⟨h, X, G, c⟩ := T.ex
  exact He.glo_ok X G (c.t.d.fact 29 (f := .glo "_law_is_name") rfl)
theorem Tp.g__law_number : mg "_law_number" = some (.ref (He.ga K "_law_number")) := by
  obtain ⟨h, X, G, c⟩ := T.ex
  exact He.glo_ok X G (c.t.d.fact 30 (f := .glo "_law_number") rfl)
theorem Tp.g__law_is : mg "_law_is" = some (.ref (He.ga K "_law_is")) := by
  obtain ⟨h, X, G, c⟩ := T.ex
  exact He.glo_ok X G (c.t.d.fact 31 (f := .glo "_law_is") rfl)
theorem Tp.g__law_named : mg "_law_named" = some (.ref (He.ga K "_law_named")) := by
  obtain ⟨h, X, G, c⟩ := T.ex
  exact He.glo_ok X G (c.t.d.fact 32 (f := .glo "_law_named") rfl)
theorem Tp.g__law_inner : mg "_law_inner" = some (.ref (He.ga K "_law_inner")) := by
  obtain ⟨h, X, G, c⟩ := T.ex
  exact He.glo_ok X G (c.t.d.fact 33 (f := .glo "_law_inner") rfl)
theorem Tp.g__law_two : mg "_law_two" = some (.ref (He.ga K "_law_two")) := by
  obtain ⟨h, X, G, c⟩ := T.ex
  exact He.glo_ok X G (c.t.d.fact 34 (f := .glo "_law_two") rfl)
theorem Tp.g__law_atom : mg "_law_atom" = some (.ref (He.ga K "_law_atom")) := by
  obtain ⟨h, X, G, c⟩ := T.ex
  exact He.glo_ok X G (c.t.d.fact 35 (f := .glo "_law_atom") rfl)
theorem Tp.g__law_t : mg "_law_t" = some (.ref (He.ga K "_law_t")) := by
  obtain ⟨h, X, G, c⟩ := T.ex
  exact He.glo_ok X G (c.t.d.fact 36 (f := .glo "_law_t") rfl)
theorem Tp.g__law_unit : mg "_law_unit" = some (.ref (He.ga K "_law_unit")) := by
  obtain ⟨h, X, G, c⟩ := T.ex
  exact He.glo_ok X G (c.t.d.fact 37 (f := .glo "_law_unit") rfl)
theorem Tp.g__law_c : mg "_law_c" = some (.ref (He.ga K "_law_c")) := by
  obtain ⟨h, X, G, c⟩ := T.ex
  exact He.glo_ok X G (c.t.d.fact 38 (f := .glo "_law_c") rfl)
theorem Tp.g__law_told : mg "_law_told" = some (.ref (He.ga K "_law_told")) := by
  obtain ⟨h, X, G, c⟩ := T.ex
  exact He.glo_ok X G (c.t.d.fact 39 (f := .glo "_law_told") rfl)
theorem Tp.g_law : mg "law" = some (.ref (He.ga K "law")) := by
  obtain ⟨h, X, G, c⟩ := T.ex
  exact He.glo_ok X G (c.t.d.fact 40 (f := .glo "law") rfl)
theorem Tp.g_WORDS : mg "WORDS" = some (.ref (He.ga K "WORDS")) := by
  obtain ⟨h, X, G, c⟩ := T.ex
  exact He.glo_ok X G (c.t.d.fact 41 (f := .glo "WORDS") rfl)
theorem Tp.g_YES : mg "YES" = some (.ref (He.ga K "YES")) := by
  obtain ⟨h, X, G, c⟩ := T.ex
  exact He.glo_ok X G (c.t.d.fact 42 (f := .glo "YES") rfl)
theorem Tp.g_CASE_WORDS : mg "CASE_WORDS" = some (.ref (He.ga K "CASE_WORDS")) := by
  obtain ⟨h, X, G, c⟩ := T.ex
  exact He.glo_ok X G (c.t.d.fact 43 (f := .glo "CASE_WORDS") rfl)
theorem Tp.g_TERMS : mg "TERMS" = some (.ref (He.ga K "TERMS")) := by
  obtain ⟨h, X, G, c⟩ := T.ex
  exact He.glo_ok X G (c.t.d.fact 44 (f := .glo "TERMS") rfl)
theorem Tp.g_CONDITIONS : mg "CONDITIONS" = some (.ref (He.ga K "CONDITIONS")) := by
  obtain ⟨h, X, G, c⟩ := T.ex
  exact He.glo_ok X G (c.t.d.fact 45 (f := .glo "CONDITIONS") rfl)
theorem Tp.g_CASE_TERMS : mg "CASE_TERMS" = some (.ref (He.ga K "CASE_TERMS")) := by
  obtain ⟨h, X, G, c⟩ := T.ex
  exact He.glo_ok X G (c.t.d.fact 46 (f := .glo "CASE_TERMS") rfl)
theorem Tp.g_CASE_CONDITIONS : mg "CASE_CONDITIONS" = some (.ref (He.ga K "CASE_CONDITIONS")) := by
  obtain ⟨h, X, G, c⟩ := T.ex
  exact He.glo_ok X G (c.t.d.fact 47 (f := .glo "CASE_CONDITIONS") rfl)
theorem Tp.z_len : mg "len" = none := by
  obtain ⟨h, X, G, c⟩ := T.ex
  exact He.free_ok X G (c.t.d.fact 48 (f := .free "len") rfl)
theorem Tp.z_all : mg "all" = none := by
  obtain ⟨h, X, G, c⟩ := T.ex
  exact He.free_ok X G (c.t.d.fact 49 (f := .free "all") rfl)
theorem Tp.z_int : mg "int" = none := by
  obtain ⟨h, X, G, c⟩ := T.ex
  exact He.free_ok X G (c.t.d.fact 50 (f := .free "int") rfl)
theorem Tp.z_max : mg "max" = none := by
  obtain ⟨h, X, G, c⟩ := T.ex
  exact He.free_ok X G (c.t.d.fact 51 (f := .free "max") rfl)
theorem Tp.z_range : mg "range" = none := by
  obtain ⟨h, X, G, c⟩ := T.ex
  exact He.free_ok X G (c.t.d.fact 52 (f := .free "range") rfl)
theorem Tp.z_isinstance : mg "isinstance" = none := by
  obtain ⟨h, X, G, c⟩ := T.ex
  exact He.free_ok X G (c.t.d.fact 53 (f := .free "isinstance") rfl)
theorem Tp.z_abs : mg "abs" = none := by
  obtain ⟨h, X, G, c⟩ := T.ex
  exact He.free_ok X G (c.t.d.fact 54 (f := .free "abs") rfl)
theorem Tp.z_str : mg "str" = none := by
  obtain ⟨h, X, G, c⟩ := T.ex
  exact He.free_ok X G (c.t.d.fact 55 (f := .free "str") rfl)
theorem Tp.c_MAX_NODES : ∃ u, mg "MAX_NODES" = some u ∧ RelV (.int 400) u := by
  obtain ⟨h, X, G, c⟩ := T.ex
  obtain ⟨t, e⟩ := He.int_ok X G (c.t.d.fact 56 (f := .int "MAX_NODES" 400) rfl)
  exact ⟨_, e, t, rfl⟩
theorem Tp.c_MAX_DEPTH : ∃ u, mg "MAX_DEPTH" = some u ∧ RelV (.int 40) u := by
  obtain ⟨h, X, G, c⟩ := T.ex
  obtain ⟨t, e⟩ := He.int_ok X G (c.t.d.fact 57 (f := .int "MAX_DEPTH" 40) rfl)
  exact ⟨_, e, t, rfl⟩
theorem Tp.c_MAX_NUMBER : ∃ u, mg "MAX_NUMBER" = some u ∧ RelV (.int 1000000) u := by
  obtain ⟨h, X, G, c⟩ := T.ex
  obtain ⟨t, e⟩ := He.int_ok X G (c.t.d.fact 58 (f := .int "MAX_NUMBER" 1000000) rfl)
  exact ⟨_, e, t, rfl⟩
theorem Tp.c_MAX_COUNT : ∃ u, mg "MAX_COUNT" = some u ∧ RelV (.int 6) u := by
  obtain ⟨h, X, G, c⟩ := T.ex
  obtain ⟨t, e⟩ := He.int_ok X G (c.t.d.fact 59 (f := .int "MAX_COUNT" 6) rfl)
  exact ⟨_, e, t, rfl⟩
theorem Tp.c_MAX_NAME : ∃ u, mg "MAX_NAME" = some u ∧ RelV (.int 20) u := by
  obtain ⟨h, X, G, c⟩ := T.ex
  obtain ⟨t, e⟩ := He.int_ok X G (c.t.d.fact 60 (f := .int "MAX_NAME" 20) rfl)
  exact ⟨_, e, t, rfl⟩
theorem Tp.c_MAX_DIGITS : ∃ u, mg "MAX_DIGITS" = some u ∧ RelV (.int 7) u := by
  obtain ⟨h, X, G, c⟩ := T.ex
  obtain ⟨t, e⟩ := He.int_ok X G (c.t.d.fact 61 (f := .int "MAX_DIGITS" 7) rfl)
  exact ⟨_, e, t, rfl⟩
theorem Tp.c_MAX_LEVELS : ∃ u, mg "MAX_LEVELS" = some u ∧ RelV (.int 100) u := by
  obtain ⟨h, X, G, c⟩ := T.ex
  obtain ⟨t, e⟩ := He.int_ok X G (c.t.d.fact 62 (f := .int "MAX_LEVELS" 100) rfl)
  exact ⟨_, e, t, rfl⟩
theorem Tp.c_SMALL : ∃ u, mg "SMALL" = some u ∧ RelV (.str "abcdefghijklmnopqrstuvwxyz") u := by
  obtain ⟨h, X, G, c⟩ := T.ex
  obtain ⟨t, e⟩ := He.str_ok X G (c.t.d.fact 63 (f := .str "SMALL" "abcdefghijklmnopqrstuvwxyz") rfl)
  exact ⟨_, e, t, rfl⟩
theorem Tp.c_REST : ∃ u, mg "REST" = some u ∧ RelV (.str "abcdefghijklmnopqrstuvwxyz0123456789") u := by
  obtain ⟨h, X, G, c⟩ := T.ex
  obtain ⟨t, e⟩ := He.str_ok X G (c.t.d.fact 64 (f := .str "REST" "abcdefghijklmnopqrstuvwxyz0123456789") rfl)
  exact ⟨_, e, t, rfl⟩
theorem Tp.c_DIGITS : ∃ u, mg "DIGITS" = some u ∧ RelV (.str "0123456789") u := by
  obtain ⟨h, X, G, c⟩ := T.ex
  obtain ⟨t, e⟩ := He.str_ok X G (c.t.d.fact 65 (f := .str "DIGITS" "0123456789") rfl)
  exact ⟨_, e, t, rfl⟩
theorem Tp.c_SIGNS : ∃ u, mg "SIGNS" = some u ∧ RelV (.str "abcdefghijklmnopqrstuvwxyz0123456789") u := by
  obtain ⟨h, X, G, c⟩ := T.ex
  obtain ⟨t, e⟩ := He.str_ok X G (c.t.d.fact 66 (f := .str "SIGNS" "abcdefghijklmnopqrstuvwxyz0123456789") rfl)
  exact ⟨_, e, t, rfl⟩
theorem Tp.c_MARKS : ∃ u, mg "MARKS" = some u ∧ RelV (.str "@+-(),<=?[]") u := by
  obtain ⟨h, X, G, c⟩ := T.ex
  obtain ⟨t, e⟩ := He.str_ok X G (c.t.d.fact 67 (f := .str "MARKS" "@+-(),<=?[]") rfl)
  exact ⟨_, e, t, rfl⟩
theorem Tp.c_WORDS : ∃ u, mg "WORDS" = some u ∧ RelV (.ref (He.ga K "WORDS")) u := ⟨_, T.g_WORDS, rfl⟩
theorem Tp.c_YES : ∃ u, mg "YES" = some u ∧ RelV (.ref (He.ga K "YES")) u := ⟨_, T.g_YES, rfl⟩
theorem Tp.c_CASE_WORDS : ∃ u, mg "CASE_WORDS" = some u ∧ RelV (.ref (He.ga K "CASE_WORDS")) u := ⟨_, T.g_CASE_WORDS, rfl⟩
theorem Tp.c_TERMS : ∃ u, mg "TERMS" = some u ∧ RelV (.ref (He.ga K "TERMS")) u := ⟨_, T.g_TERMS, rfl⟩
theorem Tp.c_CONDITIONS : ∃ u, mg "CONDITIONS" = some u ∧ RelV (.ref (He.ga K "CONDITIONS")) u := ⟨_, T.g_CONDITIONS, rfl⟩
theorem Tp.c_CASE_TERMS : ∃ u, mg "CASE_TERMS" = some u ∧ RelV (.ref (He.ga K "CASE_TERMS")) u := ⟨_, T.g_CASE_TERMS, rfl⟩
theorem Tp.c_CASE_CONDITIONS : ∃ u, mg "CASE_CONDITIONS" = some u ∧ RelV (.ref (He.ga K "CASE_CONDITIONS")) u := ⟨_, T.g_CASE_CONDITIONS, rfl⟩
theorem Tp.cl : Cls K (PC_ K) := by
  obtain ⟨h, X, G, c⟩ := T.ex
  exact He.cls_ok (c.t.d.fact 68 (f := .cls "Parser") rfl)
theorem Tp.mkr : Mk K (PC_ K) (He.ma K (PC_ K) "__init__") := by
  obtain ⟨h, X, G, c⟩ := T.ex
  exact He.mkr_ok (c.t.d.fact 69 (f := .mkr "Parser") rfl)
theorem Tp.na_row : NoAttr K (PC_ K) "row" := by
  obtain ⟨h, X, G, c⟩ := T.ex
  exact He.noat_ok (c.t.d.fact 70 (f := .noat "Parser" "row") rfl)
theorem Tp.na_cases : NoAttr K (PC_ K) "cases" := by
  obtain ⟨h, X, G, c⟩ := T.ex
  exact He.noat_ok (c.t.d.fact 71 (f := .noat "Parser" "cases") rfl)
theorem Tp.na_flags : NoAttr K (PC_ K) "flags" := by
  obtain ⟨h, X, G, c⟩ := T.ex
  exact He.noat_ok (c.t.d.fact 72 (f := .noat "Parser" "flags") rfl)
theorem Tp.na_at : NoAttr K (PC_ K) "at" := by
  obtain ⟨h, X, G, c⟩ := T.ex
  exact He.noat_ok (c.t.d.fact 73 (f := .noat "Parser" "at") rfl)
theorem Tp.na_level : NoAttr K (PC_ K) "level" := by
  obtain ⟨h, X, G, c⟩ := T.ex
  exact He.noat_ok (c.t.d.fact 74 (f := .noat "Parser" "level") rfl)
theorem Tp.m_init : Meth K (PC_ K) "__init__" (He.ma K (PC_ K) "__init__") := by
  obtain ⟨h, X, G, c⟩ := T.ex
  exact He.meth_ok (c.t.d.fact 75 (f := .meth "Parser" "__init__") rfl)
theorem Tp.m_peek : Meth K (PC_ K) "peek" (He.ma K (PC_ K) "peek") := by
  obtain ⟨h, X, G, c⟩ := T.ex
  exact He.meth_ok (c.t.d.fact 76 (f := .meth "Parser" "peek") rfl)
theorem Tp.m_take : Meth K (PC_ K) "take" (He.ma K (PC_ K) "take") := by
  obtain ⟨h, X, G, c⟩ := T.ex
  exact He.meth_ok (c.t.d.fact 77 (f := .meth "Parser" "take") rfl)
theorem Tp.m_need : Meth K (PC_ K) "need" (He.ma K (PC_ K) "need") := by
  obtain ⟨h, X, G, c⟩ := T.ex
  exact He.meth_ok (c.t.d.fact 78 (f := .meth "Parser" "need") rfl)
theorem Tp.m_begin : Meth K (PC_ K) "begin" (He.ma K (PC_ K) "begin") := by
  obtain ⟨h, X, G, c⟩ := T.ex
  exact He.meth_ok (c.t.d.fact 79 (f := .meth "Parser" "begin") rfl)
theorem Tp.m_close : Meth K (PC_ K) "close" (He.ma K (PC_ K) "close") := by
  obtain ⟨h, X, G, c⟩ := T.ex
  exact He.meth_ok (c.t.d.fact 80 (f := .meth "Parser" "close") rfl)
theorem Tp.m_name : Meth K (PC_ K) "name" (He.ma K (PC_ K) "name") := by
  obtain ⟨h, X, G, c⟩ := T.ex
  exact He.meth_ok (c.t.d.fact 81 (f := .meth "Parser" "name") rfl)
theorem Tp.m_digits : Meth K (PC_ K) "digits" (He.ma K (PC_ K) "digits") := by
  obtain ⟨h, X, G, c⟩ := T.ex
  exact He.meth_ok (c.t.d.fact 82 (f := .meth "Parser" "digits") rfl)
theorem Tp.m_number : Meth K (PC_ K) "number" (He.ma K (PC_ K) "number") := by
  obtain ⟨h, X, G, c⟩ := T.ex
  exact He.meth_ok (c.t.d.fact 83 (f := .meth "Parser" "number") rfl)
theorem Tp.m_term : Meth K (PC_ K) "term" (He.ma K (PC_ K) "term") := by
  obtain ⟨h, X, G, c⟩ := T.ex
  exact He.meth_ok (c.t.d.fact 84 (f := .meth "Parser" "term") rfl)
theorem Tp.m_inner : Meth K (PC_ K) "inner" (He.ma K (PC_ K) "inner") := by
  obtain ⟨h, X, G, c⟩ := T.ex
  exact He.meth_ok (c.t.d.fact 85 (f := .meth "Parser" "inner") rfl)
theorem Tp.m_two_terms : Meth K (PC_ K) "two_terms" (He.ma K (PC_ K) "two_terms") := by
  obtain ⟨h, X, G, c⟩ := T.ex
  exact He.meth_ok (c.t.d.fact 86 (f := .meth "Parser" "two_terms") rfl)
theorem Tp.m_atom : Meth K (PC_ K) "atom" (He.ma K (PC_ K) "atom") := by
  obtain ⟨h, X, G, c⟩ := T.ex
  exact He.meth_ok (c.t.d.fact 87 (f := .meth "Parser" "atom") rfl)
theorem Tp.m_condition : Meth K (PC_ K) "condition" (He.ma K (PC_ K) "condition") := by
  obtain ⟨h, X, G, c⟩ := T.ex
  exact He.meth_ok (c.t.d.fact 88 (f := .meth "Parser" "condition") rfl)
theorem Tp.m_both : Meth K (PC_ K) "both" (He.ma K (PC_ K) "both") := by
  obtain ⟨h, X, G, c⟩ := T.ex
  exact He.meth_ok (c.t.d.fact 89 (f := .meth "Parser" "both") rfl)
theorem Tp.m_unit : Meth K (PC_ K) "unit" (He.ma K (PC_ K) "unit") := by
  obtain ⟨h, X, G, c⟩ := T.ex
  exact He.meth_ok (c.t.d.fact 90 (f := .meth "Parser" "unit") rfl)
theorem Tp.m_compared : Meth K (PC_ K) "compared" (He.ma K (PC_ K) "compared") := by
  obtain ⟨h, X, G, c⟩ := T.ex
  exact He.meth_ok (c.t.d.fact 91 (f := .meth "Parser" "compared") rfl)
theorem Tp.m_end : Meth K (PC_ K) "end" (He.ma K (PC_ K) "end") := by
  obtain ⟨h, X, G, c⟩ := T.ex
  exact He.meth_ok (c.t.d.fact 92 (f := .meth "Parser" "end") rfl)
theorem Tp.excTL : PySem.W.excIn K (TL_ K) He.veBase "ValueError.__new__" = true ∧ PySem.W.keepIn K (.ref (TL_ K)) = true ∧ PySem.W.subIn K (.ref (TL_ K)) (.type "BaseException") = some true ∧ PySem.W.typeIn K (.ref (TL_ K)) = some (.type "type") := by
  obtain ⟨h, X, G, c⟩ := T.ex
  exact He.exc_ok (c.t.d.fact 93 (f := .exc "TooLarge") rfl)
theorem Tp.exmBB : PySem.W.exmOne K (.ref (BF_ K)) (.ref (BF_ K)) = some true := by
  obtain ⟨h, X, G, c⟩ := T.ex
  exact He.exm_ok (c.t.d.fact 94 (f := .exm "BadForm" "BadForm" true) rfl)
theorem Tp.exmTB : PySem.W.exmOne K (.ref (TL_ K)) (.ref (BF_ K)) = some false := by
  obtain ⟨h, X, G, c⟩ := T.ex
  exact He.exm_ok (c.t.d.fact 95 (f := .exm "TooLarge" "BadForm" false) rfl)
theorem Tp.exmTT : PySem.W.exmOne K (.ref (TL_ K)) (.ref (TL_ K)) = some true := by
  obtain ⟨h, X, G, c⟩ := T.ex
  exact He.exm_ok (c.t.d.fact 96 (f := .exm "TooLarge" "TooLarge" true) rfl)
theorem Tp.bfLine : PySem.W.findIn K (.ref (BF_ K)) "line" = some none := by
  obtain ⟨h, X, G, c⟩ := T.ex
  exact He.noat_ok (c.t.d.fact 97 (f := .noat "BadForm" "line") rfl)
theorem Tp.words (H : Hp) : SqT K H (He.ga K "WORDS") (wordsV.map (He.Dv.v K)) := by
  obtain ⟨h, X, G, c⟩ := T.ex
  exact He.tupB_ok (c.ex 0) H
theorem Tp.yes (H : Hp) : SqT K H (He.ga K "YES") [.str "yes"] := by
  obtain ⟨h, X, G, c⟩ := T.ex
  exact He.tupB_ok (c.ex 1) H
theorem Tp.caseW (H : Hp) : SqT K H (He.ga K "CASE_WORDS") (caseV.map (He.Dv.v K)) := by
  obtain ⟨h, X, G, c⟩ := T.ex
  exact He.tupB_ok (c.ex 2) H
theorem Tp.v_TERMS {q : Str × He.Dv} (hq : q ∈ ([("day", .str "d"), ("at", .str "n"), ("plus", .str "tn"), ("next", .str "kt"), ("prev", .str "kt"), ("nth", .str "ktm"), ("later", .str "tt"), ("earlier", .str "tt"), ("if", .str "ctt")] : List (Str × He.Dv))) : ∃ u, PySem.W.nsIn K (He.ga K "TERMS") q.1 = some (some u) ∧ RelV (q.2.v K) u := by
  obtain ⟨h, X, G, c⟩ := T.ex
  exact He.valsB_ok (c.ex 3) hq
theorem Tp.v_CONDITIONS {q : Str × He.Dv} (hq : q ∈ ([("le", .str "tt"), ("is", .str "kt"), ("flag", .str "f"), ("yes", .str ""), ("not", .str "c"), ("and", .str "cc"), ("or", .str "cc")] : List (Str × He.Dv))) : ∃ u, PySem.W.nsIn K (He.ga K "CONDITIONS") q.1 = some (some u) ∧ RelV (q.2.v K) u := by
  obtain ⟨h, X, G, c⟩ := T.ex
  exact He.valsB_ok (c.ex 4) hq
theorem Tp.v_CASE_TERMS {q : Str × He.Dv} (hq : q ∈ ([("due", .str "r")] : List (Str × He.Dv))) : ∃ u, PySem.W.nsIn K (He.ga K "CASE_TERMS") q.1 = some (some u) ∧ RelV (q.2.v K) u := by
  obtain ⟨h, X, G, c⟩ := T.ex
  exact He.valsB_ok (c.ex 5) hq
theorem Tp.v_CASE_CONDITIONS {q : Str × He.Dv} (hq : q ∈ ([("called", .str "r"), ("missed", .str "r"), ("filed", .str "r")] : List (Str × He.Dv))) : ∃ u, PySem.W.nsIn K (He.ga K "CASE_CONDITIONS") q.1 = some (some u) ∧ RelV (q.2.v K) u := by
  obtain ⟨h, X, G, c⟩ := T.ex
  exact He.valsB_ok (c.ex 6) hq
theorem Tp.n_TERMS {k : Str} (hk : k ∈ (["le", "is", "flag", "yes", "not", "and", "or"] : List Str)) : PySem.W.nsIn K (He.ga K "TERMS") k = some none := by
  obtain ⟨h, X, G, c⟩ := T.ex
  exact absB_ok (c.ex 7) hk
theorem Tp.n_CONDITIONS {k : Str} (hk : k ∈ (["day", "at", "plus", "next", "prev", "nth", "later", "earlier", "if"] : List Str)) : PySem.W.nsIn K (He.ga K "CONDITIONS") k = some none := by
  obtain ⟨h, X, G, c⟩ := T.ex
  exact absB_ok (c.ex 8) hk
theorem Tp.n_CASE_TERMS {k : Str} (hk : k ∈ (["day", "at", "plus", "next", "prev", "nth", "later", "earlier", "if", "le", "is", "flag", "yes", "not", "and", "or"] : List Str)) : PySem.W.nsIn K (He.ga K "CASE_TERMS") k = some none := by
  obtain ⟨h, X, G, c⟩ := T.ex
  exact absB_ok (c.ex 9) hk
theorem Tp.n_CASE_CONDITIONS {k : Str} (hk : k ∈ (["day", "at", "plus", "next", "prev", "nth", "later", "earlier", "if", "le", "is", "flag", "yes", "not", "and", "or"] : List Str)) : PySem.W.nsIn K (He.ga K "CASE_CONDITIONS") k = some none := by
  obtain ⟨h, X, G, c⟩ := T.ex
  exact absB_ok (c.ex 10) hk
theorem Tp.k_TERMS : ∃ es n, KDict K w (He.ga K "TERMS") es n := by
  obtain ⟨h, X, G, c⟩ := T.ex
  exact c.t.tab 0
theorem Tp.k_CONDITIONS : ∃ es n, KDict K w (He.ga K "CONDITIONS") es n := by
  obtain ⟨h, X, G, c⟩ := T.ex
  exact c.t.tab 1
theorem Tp.k_CASE_TERMS : ∃ es n, KDict K w (He.ga K "CASE_TERMS") es n := by
  obtain ⟨h, X, G, c⟩ := T.ex
  exact c.t.tab 2
theorem Tp.k_CASE_CONDITIONS : ∃ es n, KDict K w (He.ga K "CASE_CONDITIONS") es n := by
  obtain ⟨h, X, G, c⟩ := T.ex
  exact c.t.tab 3
theorem Tp.oex : OexC K (BF_ K) := by
  obtain ⟨h, X, G, c⟩ := T.ex
  exact oexB_ok (c.ex 11)
theorem Tp.xf : XfC K (BF_ K) := by
  obtain ⟨h, X, G, c⟩ := T.ex
  exact xfB_ok (c.ex 12)
theorem Tp.exis : ExcC K (BF_ K) := by
  obtain ⟨h, X, G, c⟩ := T.ex
  exact exisB_ok (c.ex 13) (c.ex 12)
theorem Tp.bfInit : PySem.W.findIn K (.ref (BF_ K)) "__init__" = some (some (.ref (He.ma K (BF_ K) "__init__"))) := by
  obtain ⟨h, X, G, c⟩ := T.ex
  exact He.eqO_ok (c.ex 14)
theorem Tp.bfFn : PySem.W.typeIn K (.ref (He.ma K (BF_ K) "__init__")) = some (.type "function") := by
  obtain ⟨h, X, G, c⟩ := T.ex
  exact of_decide_eq_true (c.ex 15)
theorem Tp.kitD : PySem.W.kitOne K (.ref (BF_ K)) (.ref (He.ga K "DiesError")) = some true := by
  obtain ⟨h, X, G, c⟩ := T.ex
  exact of_decide_eq_true (c.ex 16)
theorem Tp.kitN : PySem.W.kitOne K (.ref (BF_ K)) (.ref (He.ga K "NotAllowed")) = some false := by
  obtain ⟨h, X, G, c⟩ := T.ex
  exact of_decide_eq_true (c.ex 17)
theorem Tp.kitT : PySem.W.kitOne K (.ref (BF_ K)) (.ref (He.ga K "TooLarge")) = some false := by
  obtain ⟨h, X, G, c⟩ := T.ex
  exact of_decide_eq_true (c.ex 18)
theorem Tp.f_BadForm_init : ∃ fd, FunD K "__init__" "BadForm.__init__" (defArgs s_BadForm_init) (defBody s_BadForm_init) (defScope s_BadForm_init) [] [] (He.ma K (He.ga K "BadForm") "__init__") fd := by
  obtain ⟨h, X, G, c⟩ := T.ex
  exact c.t.d.def_ 0 (d := d_BadForm_init) rfl
theorem Tp.f_is_name : ∃ fd, FunD K "is_name" "is_name" (defArgs s_is_name) (defBody s_is_name) (defScope s_is_name) [] [] (He.ga K "is_name") fd := by
  obtain ⟨h, X, G, c⟩ := T.ex
  exact c.t.d.def_ 1 (d := d_is_name) rfl
theorem Tp.f_signs_of : ∃ fd, FunD K "signs_of" "signs_of" (defArgs s_signs_of) (defBody s_signs_of) (defScope s_signs_of) [] [] (He.ga K "signs_of") fd := by
  obtain ⟨h, X, G, c⟩ := T.ex
  exact c.t.d.def_ 2 (d := d_signs_of) rfl
theorem Tp.f_form_of : ∃ fd, FunD K "form_of" "form_of" (defArgs s_form_of) (defBody s_form_of) (defScope s_form_of) [] [] (He.ga K "form_of") fd := by
  obtain ⟨h, X, G, c⟩ := T.ex
  exact c.t.d.def_ 3 (d := d_form_of) rfl
theorem Tp.f_parts_of : ∃ fd, FunD K "parts_of" "parts_of" (defArgs s_parts_of) (defBody s_parts_of) (defScope s_parts_of) [] [] (He.ga K "parts_of") fd := by
  obtain ⟨h, X, G, c⟩ := T.ex
  exact c.t.d.def_ 4 (d := d_parts_of) rfl
theorem Tp.f_measure : ∃ fd, FunD K "measure" "measure" (defArgs s_measure) (defBody s_measure) (defScope s_measure) [] [] (He.ga K "measure") fd := by
  obtain ⟨h, X, G, c⟩ := T.ex
  exact c.t.d.def_ 5 (d := d_measure) rfl
theorem Tp.f_check_size : ∃ fd, FunD K "check_size" "check_size" (defArgs s_check_size) (defBody s_check_size) (defScope s_check_size) [] [] (He.ga K "check_size") fd := by
  obtain ⟨h, X, G, c⟩ := T.ex
  exact c.t.d.def_ 6 (d := d_check_size) rfl
theorem Tp.f_token_end : ∃ fd, FunD K "token_end" "token_end" (defArgs s_token_end) (defBody s_token_end) (defScope s_token_end) [] [] (He.ga K "token_end") fd := by
  obtain ⟨h, X, G, c⟩ := T.ex
  exact c.t.d.def_ 7 (d := d_token_end) rfl
theorem Tp.f_tokens : ∃ fd, FunD K "tokens" "tokens" (defArgs s_tokens) (defBody s_tokens) (defScope s_tokens) [] [] (He.ga K "tokens") fd := by
  obtain ⟨h, X, G, c⟩ := T.ex
  exact c.t.d.def_ 8 (d := d_tokens) rfl
theorem Tp.f_Parser_init : ∃ fd, FunD K "__init__" "Parser.__init__" (defArgs s_Parser_init) (defBody s_Parser_init) (defScope s_Parser_init) [] [] (He.ma K (He.ga K "Parser") "__init__") fd := by
  obtain ⟨h, X, G, c⟩ := T.ex
  exact c.t.d.def_ 9 (d := d_Parser_init) rfl
theorem Tp.f_Parser_peek : ∃ fd, FunD K "peek" "Parser.peek" (defArgs s_Parser_peek) (defBody s_Parser_peek) (defScope s_Parser_peek) [] [] (He.ma K (He.ga K "Parser") "peek") fd := by
  obtain ⟨h, X, G, c⟩ := T.ex
  exact c.t.d.def_ 10 (d := d_Parser_peek) rfl
theorem Tp.f_Parser_take : ∃ fd, FunD K "take" "Parser.take" (defArgs s_Parser_take) (defBody s_Parser_take) (defScope s_Parser_take) [] [] (He.ma K (He.ga K "Parser") "take") fd := by
  obtain ⟨h, X, G, c⟩ := T.ex
  exact c.t.d.def_ 11 (d := d_Parser_take) rfl
theorem Tp.f_Parser_need : ∃ fd, FunD K "need" "Parser.need" (defArgs s_Parser_need) (defBody s_Parser_need) (defScope s_Parser_need) [] [] (He.ma K (He.ga K "Parser") "need") fd := by
  obtain ⟨h, X, G, c⟩ := T.ex
  exact c.t.d.def_ 12 (d := d_Parser_need) rfl
theorem Tp.f_Parser_begin : ∃ fd, FunD K "begin" "Parser.begin" (defArgs s_Parser_begin) (defBody s_Parser_begin) (defScope s_Parser_begin) [] [] (He.ma K (He.ga K "Parser") "begin") fd := by
  obtain ⟨h, X, G, c⟩ := T.ex
  exact c.t.d.def_ 13 (d := d_Parser_begin) rfl
theorem Tp.f_Parser_close : ∃ fd, FunD K "close" "Parser.close" (defArgs s_Parser_close) (defBody s_Parser_close) (defScope s_Parser_close) [] [] (He.ma K (He.ga K "Parser") "close") fd := by
  obtain ⟨h, X, G, c⟩ := T.ex
  exact c.t.d.def_ 14 (d := d_Parser_close) rfl
theorem Tp.f_Parser_name : ∃ fd, FunD K "name" "Parser.name" (defArgs s_Parser_name) (defBody s_Parser_name) (defScope s_Parser_name) [] [] (He.ma K (He.ga K "Parser") "name") fd := by
  obtain ⟨h, X, G, c⟩ := T.ex
  exact c.t.d.def_ 15 (d := d_Parser_name) rfl
theorem Tp.f_Parser_digits : ∃ fd, FunD K "digits" "Parser.digits" (defArgs s_Parser_digits) (defBody s_Parser_digits) (defScope s_Parser_digits) [] [] (He.ma K (He.ga K "Parser") "digits") fd := by
  obtain ⟨h, X, G, c⟩ := T.ex
  exact c.t.d.def_ 16 (d := d_Parser_digits) rfl
theorem Tp.f_Parser_number : ∃ fd, FunD K "number" "Parser.number" (defArgs s_Parser_number) (defBody s_Parser_number) (defScope s_Parser_number) [] [] (He.ma K (He.ga K "Parser") "number") fd := by
  obtain ⟨h, X, G, c⟩ := T.ex
  exact c.t.d.def_ 17 (d := d_Parser_number) rfl
theorem Tp.f_Parser_term : ∃ fd, FunD K "term" "Parser.term" (defArgs s_Parser_term) (defBody s_Parser_term) (defScope s_Parser_term) [] [] (He.ma K (He.ga K "Parser") "term") fd := by
  obtain ⟨h, X, G, c⟩ := T.ex
  exact c.t.d.def_ 18 (d := d_Parser_term) rfl
theorem Tp.f_Parser_inner : ∃ fd, FunD K "inner" "Parser.inner" (defArgs s_Parser_inner) (defBody s_Parser_inner) (defScope s_Parser_inner) [] [] (He.ma K (He.ga K "Parser") "inner") fd := by
  obtain ⟨h, X, G, c⟩ := T.ex
  exact c.t.d.def_ 19 (d := d_Parser_inner) rfl
theorem Tp.f_Parser_two_terms : ∃ fd, FunD K "two_terms" "Parser.two_terms" (defArgs s_Parser_two_terms) (defBody s_Parser_two_terms) (defScope s_Parser_two_terms) [] [] (He.ma K (He.ga K "Parser") "two_terms") fd := by
  obtain ⟨h, X, G, c⟩ := T.ex
  exact c.t.d.def_ 20 (d := d_Parser_two_terms) rfl
theorem Tp.f_Parser_atom : ∃ fd, FunD K "atom" "Parser.atom" (defArgs s_Parser_atom) (defBody s_Parser_atom) (defScope s_Parser_atom) [] [] (He.ma K (He.ga K "Parser") "atom") fd := by
  obtain ⟨h, X, G, c⟩ := T.ex
  exact c.t.d.def_ 21 (d := d_Parser_atom) rfl
theorem Tp.f_Parser_condition : ∃ fd, FunD K "condition" "Parser.condition" (defArgs s_Parser_condition) (defBody s_Parser_condition) (defScope s_Parser_condition) [] [] (He.ma K (He.ga K "Parser") "condition") fd := by
  obtain ⟨h, X, G, c⟩ := T.ex
  exact c.t.d.def_ 22 (d := d_Parser_condition) rfl
theorem Tp.f_Parser_both : ∃ fd, FunD K "both" "Parser.both" (defArgs s_Parser_both) (defBody s_Parser_both) (defScope s_Parser_both) [] [] (He.ma K (He.ga K "Parser") "both") fd := by
  obtain ⟨h, X, G, c⟩ := T.ex
  exact c.t.d.def_ 23 (d := d_Parser_both) rfl
theorem Tp.f_Parser_unit : ∃ fd, FunD K "unit" "Parser.unit" (defArgs s_Parser_unit) (defBody s_Parser_unit) (defScope s_Parser_unit) [] [] (He.ma K (He.ga K "Parser") "unit") fd := by
  obtain ⟨h, X, G, c⟩ := T.ex
  exact c.t.d.def_ 24 (d := d_Parser_unit) rfl
theorem Tp.f_Parser_compared : ∃ fd, FunD K "compared" "Parser.compared" (defArgs s_Parser_compared) (defBody s_Parser_compared) (defScope s_Parser_compared) [] [] (He.ma K (He.ga K "Parser") "compared") fd := by
  obtain ⟨h, X, G, c⟩ := T.ex
  exact c.t.d.def_ 25 (d := d_Parser_compared) rfl
theorem Tp.f_Parser_end : ∃ fd, FunD K "end" "Parser.end" (defArgs s_Parser_end) (defBody s_Parser_end) (defScope s_Parser_end) [] [] (He.ma K (He.ga K "Parser") "end") fd := by
  obtain ⟨h, X, G, c⟩ := T.ex
  exact c.t.d.def_ 26 (d := d_Parser_end) rfl
theorem Tp.f_whole_term : ∃ fd, FunD K "whole_term" "whole_term" (defArgs s_whole_term) (defBody s_whole_term) (defScope s_whole_term) [] [] (He.ga K "whole_term") fd := by
  obtain ⟨h, X, G, c⟩ := T.ex
  exact c.t.d.def_ 27 (d := d_whole_term) rfl
theorem Tp.f_whole_condition : ∃ fd, FunD K "whole_condition" "whole_condition" (defArgs s_whole_condition) (defBody s_whole_condition) (defScope s_whole_condition) [] [] (He.ga K "whole_condition") fd := by
  obtain ⟨h, X, G, c⟩ := T.ex
  exact c.t.d.def_ 28 (d := d_whole_condition) rfl
theorem Tp.f_read_term : ∃ fd, FunD K "read_term" "read_term" (defArgs s_read_term) (defBody s_read_term) (defScope s_read_term) [] [] (He.ga K "read_term") fd := by
  obtain ⟨h, X, G, c⟩ := T.ex
  exact c.t.d.def_ 29 (d := d_read_term) rfl
theorem Tp.f_read_condition : ∃ fd, FunD K "read_condition" "read_condition" (defArgs s_read_condition) (defBody s_read_condition) (defScope s_read_condition) [] [] (He.ga K "read_condition") fd := by
  obtain ⟨h, X, G, c⟩ := T.ex
  exact c.t.d.def_ 30 (d := d_read_condition) rfl
theorem Tp.f_plus_text : ∃ fd, FunD K "plus_text" "plus_text" (defArgs s_plus_text) (defBody s_plus_text) (defScope s_plus_text) [] [] (He.ga K "plus_text") fd := by
  obtain ⟨h, X, G, c⟩ := T.ex
  exact c.t.d.def_ 31 (d := d_plus_text) rfl
theorem Tp.f_term_text : ∃ fd, FunD K "term_text" "term_text" (defArgs s_term_text) (defBody s_term_text) (defScope s_term_text) [] [] (He.ga K "term_text") fd := by
  obtain ⟨h, X, G, c⟩ := T.ex
  exact c.t.d.def_ 32 (d := d_term_text) rfl
theorem Tp.f_bracketed : ∃ fd, FunD K "bracketed" "bracketed" (defArgs s_bracketed) (defBody s_bracketed) (defScope s_bracketed) [] [] (He.ga K "bracketed") fd := by
  obtain ⟨h, X, G, c⟩ := T.ex
  exact c.t.d.def_ 33 (d := d_bracketed) rfl
theorem Tp.f_condition_text : ∃ fd, FunD K "condition_text" "condition_text" (defArgs s_condition_text) (defBody s_condition_text) (defScope s_condition_text) [] [] (He.ga K "condition_text") fd := by
  obtain ⟨h, X, G, c⟩ := T.ex
  exact c.t.d.def_ 34 (d := d_condition_text) rfl
theorem Tp.f__law_row : ∃ fd, FunD K "_law_row" "_law_row" (defArgs s__law_row) (defBody s__law_row) (defScope s__law_row) [] [] (He.ga K "_law_row") fd := by
  obtain ⟨h, X, G, c⟩ := T.ex
  exact c.t.d.def_ 35 (d := d__law_row) rfl
theorem Tp.f__law_at : ∃ fd, FunD K "_law_at" "_law_at" (defArgs s__law_at) (defBody s__law_at) (defScope s__law_at) [] [] (He.ga K "_law_at") fd := by
  obtain ⟨h, X, G, c⟩ := T.ex
  exact c.t.d.def_ 36 (d := d__law_at) rfl
theorem Tp.f__law_next : ∃ fd, FunD K "_law_next" "_law_next" (defArgs s__law_next) (defBody s__law_next) (defScope s__law_next) [] [] (He.ga K "_law_next") fd := by
  obtain ⟨h, X, G, c⟩ := T.ex
  exact c.t.d.def_ 37 (d := d__law_next) rfl
theorem Tp.f__law_term : ∃ fd, FunD K "_law_term" "_law_term" (defArgs s__law_term) (defBody s__law_term) (defScope s__law_term) [] [] (He.ga K "_law_term") fd := by
  obtain ⟨h, X, G, c⟩ := T.ex
  exact c.t.d.def_ 38 (d := d__law_term) rfl
theorem Tp.f__law_condition : ∃ fd, FunD K "_law_condition" "_law_condition" (defArgs s__law_condition) (defBody s__law_condition) (defScope s__law_condition) [] [] (He.ga K "_law_condition") fd := by
  obtain ⟨h, X, G, c⟩ := T.ex
  exact c.t.d.def_ 39 (d := d__law_condition) rfl
theorem Tp.f__law_text : ∃ fd, FunD K "_law_text" "_law_text" (defArgs s__law_text) (defBody s__law_text) (defScope s__law_text) [] [] (He.ga K "_law_text") fd := by
  obtain ⟨h, X, G, c⟩ := T.ex
  exact c.t.d.def_ 40 (d := d__law_text) rfl
theorem Tp.f__law_tokens : ∃ fd, FunD K "_law_tokens" "_law_tokens" (defArgs s__law_tokens) (defBody s__law_tokens) (defScope s__law_tokens) [] [] (He.ga K "_law_tokens") fd := by
  obtain ⟨h, X, G, c⟩ := T.ex
  exact c.t.d.def_ 41 (d := d__law_tokens) rfl
theorem Tp.f__law_word : ∃ fd, FunD K "_law_word" "_law_word" (defArgs s__law_word) (defBody s__law_word) (defScope s__law_word) [] [] (He.ga K "_law_word") fd := by
  obtain ⟨h, X, G, c⟩ := T.ex
  exact c.t.d.def_ 42 (d := d__law_word) rfl
theorem Tp.f__law_is_name : ∃ fd, FunD K "_law_is_name" "_law_is_name" (defArgs s__law_is_name) (defBody s__law_is_name) (defScope s__law_is_name) [] [] (He.ga K "_law_is_name") fd := by
  obtain ⟨h, X, G, c⟩ := T.ex
  exact c.t.d.def_ 43 (d := d__law_is_name) rfl
theorem Tp.f__law_number : ∃ fd, FunD K "_law_number" "_law_number" (defArgs s__law_number) (defBody s__law_number) (defScope s__law_number) [] [] (He.ga K "_law_number") fd := by
  obtain ⟨h, X, G, c⟩ := T.ex
  exact c.t.d.def_ 44 (d := d__law_number) rfl
theorem Tp.f__law_is : ∃ fd, FunD K "_law_is" "_law_is" (defArgs s__law_is) (defBody s__law_is) (defScope s__law_is) [] [] (He.ga K "_law_is") fd := by
  obtain ⟨h, X, G, c⟩ := T.ex
  exact c.t.d.def_ 45 (d := d__law_is) rfl
theorem Tp.f__law_named : ∃ fd, FunD K "_law_named" "_law_named" (defArgs s__law_named) (defBody s__law_named) (defScope s__law_named) [] [] (He.ga K "_law_named") fd := by
  obtain ⟨h, X, G, c⟩ := T.ex
  exact c.t.d.def_ 46 (d := d__law_named) rfl
theorem Tp.f__law_inner : ∃ fd, FunD K "_law_inner" "_law_inner" (defArgs s__law_inner) (defBody s__law_inner) (defScope s__law_inner) [] [] (He.ga K "_law_inner") fd := by
  obtain ⟨h, X, G, c⟩ := T.ex
  exact c.t.d.def_ 47 (d := d__law_inner) rfl
theorem Tp.f__law_two : ∃ fd, FunD K "_law_two" "_law_two" (defArgs s__law_two) (defBody s__law_two) (defScope s__law_two) [] [] (He.ga K "_law_two") fd := by
  obtain ⟨h, X, G, c⟩ := T.ex
  exact c.t.d.def_ 48 (d := d__law_two) rfl
theorem Tp.f__law_atom : ∃ fd, FunD K "_law_atom" "_law_atom" (defArgs s__law_atom) (defBody s__law_atom) (defScope s__law_atom) [] [] (He.ga K "_law_atom") fd := by
  obtain ⟨h, X, G, c⟩ := T.ex
  exact c.t.d.def_ 49 (d := d__law_atom) rfl
theorem Tp.f__law_t : ∃ fd, FunD K "_law_t" "_law_t" (defArgs s__law_t) (defBody s__law_t) (defScope s__law_t) [] [] (He.ga K "_law_t") fd := by
  obtain ⟨h, X, G, c⟩ := T.ex
  exact c.t.d.def_ 50 (d := d__law_t) rfl
theorem Tp.f__law_unit : ∃ fd, FunD K "_law_unit" "_law_unit" (defArgs s__law_unit) (defBody s__law_unit) (defScope s__law_unit) [] [] (He.ga K "_law_unit") fd := by
  obtain ⟨h, X, G, c⟩ := T.ex
  exact c.t.d.def_ 51 (d := d__law_unit) rfl
theorem Tp.f__law_c : ∃ fd, FunD K "_law_c" "_law_c" (defArgs s__law_c) (defBody s__law_c) (defScope s__law_c) [] [] (He.ga K "_law_c") fd := by
  obtain ⟨h, X, G, c⟩ := T.ex
  exact c.t.d.def_ 52 (d := d__law_c) rfl
theorem Tp.f__law_told : ∃ fd, FunD K "_law_told" "_law_told" (defArgs s__law_told) (defBody s__law_told) (defScope s__law_told) [] [] (He.ga K "_law_told") fd := by
  obtain ⟨h, X, G, c⟩ := T.ex
  exact c.t.d.def_ 53 (d := d__law_told) rfl
theorem Tp.f_law : ∃ fd, FunD K "law" "law" (defArgs s_law) (defBody s_law) (defScope s_law) [] [] (He.ga K "law") fd := by
  obtain ⟨h, X, G, c⟩ := T.ex
  exact c.t.d.def_ 54 (d := d_law) rfl
end
abbrev N_BadForm_init : List Str := ["self", "line"]
abbrev P_BadForm_init : List Str := ["self", "line"]
theorem sc_BadForm_init : FnScope N_BadForm_init P_BadForm_init (defScope s_BadForm_init) := ⟨rfl, rfl, rfl, by decide +kernel, rfl, by decide +kernel, by decide +kernel⟩
theorem b_BadForm_init {K : PySem.W.Frag} {x qual : Str} {f : Addr} {fd : FuncData} (F : FunD K x qual (defArgs s_BadForm_init) (defBody s_BadForm_init) (defScope s_BadForm_init) [] [] f fd) : Binds K fd P_BadForm_init [] := F.bindsN fun _ _ _ _ _ _ us hl => match us, hl with | [_, _], _ => rfl
abbrev N_is_name : List Str := ["text", "sign"]
abbrev P_is_name : List Str := ["text"]
theorem sc_is_name : FnScope N_is_name P_is_name (defScope s_is_name) := ⟨rfl, rfl, rfl, by decide +kernel, rfl, by decide +kernel, by decide +kernel⟩
theorem b_is_name {K : PySem.W.Frag} {x qual : Str} {f : Addr} {fd : FuncData} (F : FunD K x qual (defArgs s_is_name) (defBody s_is_name) (defScope s_is_name) [] [] f fd) : Binds K fd P_is_name [] := F.bindsN fun _ _ _ _ _ _ us hl => match us, hl with | [_], _ => rfl
abbrev N_signs_of : List Str := ["word", "kind", "cases"]
abbrev P_signs_of : List Str := ["word", "kind", "cases"]
theorem sc_signs_of : FnScope N_signs_of P_signs_of (defScope s_signs_of) := ⟨rfl, rfl, rfl, by decide +kernel, rfl, by decide +kernel, by decide +kernel⟩
theorem b_signs_of {K : PySem.W.Frag} {x qual : Str} {f : Addr} {fd : FuncData} (F : FunD K x qual (defArgs s_signs_of) (defBody s_signs_of) (defScope s_signs_of) [] [] f fd) : Binds K fd P_signs_of [] := F.bindsN fun _ _ _ _ _ _ us hl => match us, hl with | [_, _, _], _ => rfl
abbrev N_form_of : List Str := ["node", "signs"]
abbrev P_form_of : List Str := ["node"]
theorem sc_form_of : FnScope N_form_of P_form_of (defScope s_form_of) := ⟨rfl, rfl, rfl, by decide +kernel, rfl, by decide +kernel, by decide +kernel⟩
theorem b_form_of {K : PySem.W.Frag} {x qual : Str} {f : Addr} {fd : FuncData} (F : FunD K x qual (defArgs s_form_of) (defBody s_form_of) (defScope s_form_of) [] [] f fd) : Binds K fd P_form_of [] := F.bindsN fun _ _ _ _ _ _ us hl => match us, hl with | [_], _ => rfl
abbrev N_parts_of : List Str := ["node", "signs", "at"]
abbrev P_parts_of : List Str := ["node"]
theorem sc_parts_of : FnScope N_parts_of P_parts_of (defScope s_parts_of) := ⟨rfl, rfl, rfl, by decide +kernel, rfl, by decide +kernel, by decide +kernel⟩
theorem b_parts_of {K : PySem.W.Frag} {x qual : Str} {f : Addr} {fd : FuncData} (F : FunD K x qual (defArgs s_parts_of) (defBody s_parts_of) (defScope s_parts_of) [] [] f fd) : Binds K fd P_parts_of [] := F.bindsN fun _ _ _ _ _ _ us hl => match us, hl with | [_], _ => rfl
abbrev N_measure : List Str := ["node", "size", "deepest", "waiting", "one", "depth", "part"]
abbrev P_measure : List Str := ["node"]
theorem sc_measure : FnScope N_measure P_measure (defScope s_measure) := ⟨rfl, rfl, rfl, by decide +kernel, rfl, by decide +kernel, by decide +kernel⟩
theorem b_measure {K : PySem.W.Frag} {x qual : Str} {f : Addr} {fd : FuncData} (F : FunD K x qual (defArgs s_measure) (defBody s_measure) (defScope s_measure) [] [] f fd) : Binds K fd P_measure [] := F.bindsN fun _ _ _ _ _ _ us hl => match us, hl with | [_], _ => rfl
abbrev N_check_size : List Str := ["node", "size", "depth"]
abbrev P_check_size : List Str := ["node"]
theorem sc_check_size : FnScope N_check_size P_check_size (defScope s_check_size) := ⟨rfl, rfl, rfl, by decide +kernel, rfl, by decide +kernel, by decide +kernel⟩
theorem b_check_size {K : PySem.W.Frag} {x qual : Str} {f : Addr} {fd : FuncData} (F : FunD K x qual (defArgs s_check_size) (defBody s_check_size) (defScope s_check_size) [] [] f fd) : Binds K fd P_check_size [] := F.bindsN fun _ _ _ _ _ _ us hl => match us, hl with | [_], _ => rfl
abbrev N_token_end : List Str := ["text", "at", "end"]
abbrev P_token_end : List Str := ["text", "at"]
theorem sc_token_end : FnScope N_token_end P_token_end (defScope s_token_end) := ⟨rfl, rfl, rfl, by decide +kernel, rfl, by decide +kernel, by decide +kernel⟩
theorem b_token_end {K : PySem.W.Frag} {x qual : Str} {f : Addr} {fd : FuncData} (F : FunD K x qual (defArgs s_token_end) (defBody s_token_end) (defScope s_token_end) [] [] f fd) : Binds K fd P_token_end [] := F.bindsN fun _ _ _ _ _ _ us hl => match us, hl with | [_, _], _ => rfl
abbrev N_tokens : List Str := ["text", "found", "at", "end"]
abbrev P_tokens : List Str := ["text"]
theorem sc_tokens : FnScope N_tokens P_tokens (defScope s_tokens) := ⟨rfl, rfl, rfl, by decide +kernel, rfl, by decide +kernel, by decide +kernel⟩
theorem b_tokens {K : PySem.W.Frag} {x qual : Str} {f : Addr} {fd : FuncData} (F : FunD K x qual (defArgs s_tokens) (defBody s_tokens) (defScope s_tokens) [] [] f fd) : Binds K fd P_tokens [] := F.bindsN fun _ _ _ _ _ _ us hl => match us, hl with | [_], _ => rfl
abbrev N_Parser_init : List Str := ["self", "text", "cases"]
abbrev P_Parser_init : List Str := ["self", "text", "cases"]
theorem sc_Parser_init : FnScope N_Parser_init P_Parser_init (defScope s_Parser_init) := ⟨rfl, rfl, rfl, by decide +kernel, rfl, by decide +kernel, by decide +kernel⟩
theorem b_Parser_init {K : PySem.W.Frag} {x qual : Str} {f : Addr} {fd : FuncData} (F : FunD K x qual (defArgs s_Parser_init) (defBody s_Parser_init) (defScope s_Parser_init) [] [] f fd) : Binds K fd P_Parser_init [] := F.bindsN fun _ _ _ _ _ _ us hl => match us, hl with | [_, _, _], _ => rfl
abbrev N_Parser_peek : List Str := ["self"]
abbrev P_Parser_peek : List Str := ["self"]
theorem sc_Parser_peek : FnScope N_Parser_peek P_Parser_peek (defScope s_Parser_peek) := ⟨rfl, rfl, rfl, by decide +kernel, rfl, by decide +kernel, by decide +kernel⟩
theorem b_Parser_peek {K : PySem.W.Frag} {x qual : Str} {f : Addr} {fd : FuncData} (F : FunD K x qual (defArgs s_Parser_peek) (defBody s_Parser_peek) (defScope s_Parser_peek) [] [] f fd) : Binds K fd P_Parser_peek [] := F.bindsN fun _ _ _ _ _ _ us hl => match us, hl with | [_], _ => rfl
abbrev N_Parser_take : List Str := ["self", "token"]
abbrev P_Parser_take : List Str := ["self"]
theorem sc_Parser_take : FnScope N_Parser_take P_Parser_take (defScope s_Parser_take) := ⟨rfl, rfl, rfl, by decide +kernel, rfl, by decide +kernel, by decide +kernel⟩
theorem b_Parser_take {K : PySem.W.Frag} {x qual : Str} {f : Addr} {fd : FuncData} (F : FunD K x qual (defArgs s_Parser_take) (defBody s_Parser_take) (defScope s_Parser_take) [] [] f fd) : Binds K fd P_Parser_take [] := F.bindsN fun _ _ _ _ _ _ us hl => match us, hl with | [_], _ => rfl
abbrev N_Parser_need : List Str := ["self", "token"]
abbrev P_Parser_need : List Str := ["self", "token"]
theorem sc_Parser_need : FnScope N_Parser_need P_Parser_need (defScope s_Parser_need) := ⟨rfl, rfl, rfl, by decide +kernel, rfl, by decide +kernel, by decide +kernel⟩
theorem b_Parser_need {K : PySem.W.Frag} {x qual : Str} {f : Addr} {fd : FuncData} (F : FunD K x qual (defArgs s_Parser_need) (defBody s_Parser_need) (defScope s_Parser_need) [] [] f fd) : Binds K fd P_Parser_need [] := F.bindsN fun _ _ _ _ _ _ us hl => match us, hl with | [_, _], _ => rfl
abbrev N_Parser_begin : List Str := ["self", "token"]
abbrev P_Parser_begin : List Str := ["self", "token"]
theorem sc_Parser_begin : FnScope N_Parser_begin P_Parser_begin (defScope s_Parser_begin) := ⟨rfl, rfl, rfl, by decide +kernel, rfl, by decide +kernel, by decide +kernel⟩
theorem b_Parser_begin {K : PySem.W.Frag} {x qual : Str} {f : Addr} {fd : FuncData} (F : FunD K x qual (defArgs s_Parser_begin) (defBody s_Parser_begin) (defScope s_Parser_begin) [] [] f fd) : Binds K fd P_Parser_begin [] := F.bindsN fun _ _ _ _ _ _ us hl => match us, hl with | [_, _], _ => rfl
abbrev N_Parser_close : List Str := ["self", "token"]
abbrev P_Parser_close : List Str := ["self", "token"]
theorem sc_Parser_close : FnScope N_Parser_close P_Parser_close (defScope s_Parser_close) := ⟨rfl, rfl, rfl, by decide +kernel, rfl, by decide +kernel, by decide +kernel⟩
theorem b_Parser_close {K : PySem.W.Frag} {x qual : Str} {f : Addr} {fd : FuncData} (F : FunD K x qual (defArgs s_Parser_close) (defBody s_Parser_close) (defScope s_Parser_close) [] [] f fd) : Binds K fd P_Parser_close [] := F.bindsN fun _ _ _ _ _ _ us hl => match us, hl with | [_, _], _ => rfl
abbrev N_Parser_name : List Str := ["self", "token"]
abbrev P_Parser_name : List Str := ["self"]
theorem sc_Parser_name : FnScope N_Parser_name P_Parser_name (defScope s_Parser_name) := ⟨rfl, rfl, rfl, by decide +kernel, rfl, by decide +kernel, by decide +kernel⟩
theorem b_Parser_name {K : PySem.W.Frag} {x qual : Str} {f : Addr} {fd : FuncData} (F : FunD K x qual (defArgs s_Parser_name) (defBody s_Parser_name) (defScope s_Parser_name) [] [] f fd) : Binds K fd P_Parser_name [] := F.bindsN fun _ _ _ _ _ _ us hl => match us, hl with | [_], _ => rfl
abbrev N_Parser_digits : List Str := ["self", "token", "sign"]
abbrev P_Parser_digits : List Str := ["self"]
theorem sc_Parser_digits : FnScope N_Parser_digits P_Parser_digits (defScope s_Parser_digits) := ⟨rfl, rfl, rfl, by decide +kernel, rfl, by decide +kernel, by decide +kernel⟩
theorem b_Parser_digits {K : PySem.W.Frag} {x qual : Str} {f : Addr} {fd : FuncData} (F : FunD K x qual (defArgs s_Parser_digits) (defBody s_Parser_digits) (defScope s_Parser_digits) [] [] f fd) : Binds K fd P_Parser_digits [] := F.bindsN fun _ _ _ _ _ _ us hl => match us, hl with | [_], _ => rfl
abbrev N_Parser_number : List Str := ["self"]
abbrev P_Parser_number : List Str := ["self"]
theorem sc_Parser_number : FnScope N_Parser_number P_Parser_number (defScope s_Parser_number) := ⟨rfl, rfl, rfl, by decide +kernel, rfl, by decide +kernel, by decide +kernel⟩
theorem b_Parser_number {K : PySem.W.Frag} {x qual : Str} {f : Addr} {fd : FuncData} (F : FunD K x qual (defArgs s_Parser_number) (defBody s_Parser_number) (defScope s_Parser_number) [] [] f fd) : Binds K fd P_Parser_number [] := F.bindsN fun _ _ _ _ _ _ us hl => match us, hl with | [_], _ => rfl
abbrev N_Parser_term : List Str := ["self", "term", "sign", "number"]
abbrev P_Parser_term : List Str := ["self"]
theorem sc_Parser_term : FnScope N_Parser_term P_Parser_term (defScope s_Parser_term) := ⟨rfl, rfl, rfl, by decide +kernel, rfl, by decide +kernel, by decide +kernel⟩
theorem b_Parser_term {K : PySem.W.Frag} {x qual : Str} {f : Addr} {fd : FuncData} (F : FunD K x qual (defArgs s_Parser_term) (defBody s_Parser_term) (defScope s_Parser_term) [] [] f fd) : Binds K fd P_Parser_term [] := F.bindsN fun _ _ _ _ _ _ us hl => match us, hl with | [_], _ => rfl
abbrev N_Parser_inner : List Str := ["self", "term"]
abbrev P_Parser_inner : List Str := ["self"]
theorem sc_Parser_inner : FnScope N_Parser_inner P_Parser_inner (defScope s_Parser_inner) := ⟨rfl, rfl, rfl, by decide +kernel, rfl, by decide +kernel, by decide +kernel⟩
theorem b_Parser_inner {K : PySem.W.Frag} {x qual : Str} {f : Addr} {fd : FuncData} (F : FunD K x qual (defArgs s_Parser_inner) (defBody s_Parser_inner) (defScope s_Parser_inner) [] [] f fd) : Binds K fd P_Parser_inner [] := F.bindsN fun _ _ _ _ _ _ us hl => match us, hl with | [_], _ => rfl
abbrev N_Parser_two_terms : List Str := ["self", "first", "second"]
abbrev P_Parser_two_terms : List Str := ["self"]
theorem sc_Parser_two_terms : FnScope N_Parser_two_terms P_Parser_two_terms (defScope s_Parser_two_terms) := ⟨rfl, rfl, rfl, by decide +kernel, rfl, by decide +kernel, by decide +kernel⟩
theorem b_Parser_two_terms {K : PySem.W.Frag} {x qual : Str} {f : Addr} {fd : FuncData} (F : FunD K x qual (defArgs s_Parser_two_terms) (defBody s_Parser_two_terms) (defScope s_Parser_two_terms) [] [] f fd) : Binds K fd P_Parser_two_terms [] := F.bindsN fun _ _ _ _ _ _ us hl => match us, hl with | [_], _ => rfl
abbrev N_Parser_atom : List Str := ["self", "token", "calendar", "count", "condition"]
abbrev P_Parser_atom : List Str := ["self"]
theorem sc_Parser_atom : FnScope N_Parser_atom P_Parser_atom (defScope s_Parser_atom) := ⟨rfl, rfl, rfl, by decide +kernel, rfl, by decide +kernel, by decide +kernel⟩
theorem b_Parser_atom {K : PySem.W.Frag} {x qual : Str} {f : Addr} {fd : FuncData} (F : FunD K x qual (defArgs s_Parser_atom) (defBody s_Parser_atom) (defScope s_Parser_atom) [] [] f fd) : Binds K fd P_Parser_atom [] := F.bindsN fun _ _ _ _ _ _ us hl => match us, hl with | [_], _ => rfl
abbrev N_Parser_condition : List Str := ["self", "condition"]
abbrev P_Parser_condition : List Str := ["self"]
theorem sc_Parser_condition : FnScope N_Parser_condition P_Parser_condition (defScope s_Parser_condition) := ⟨rfl, rfl, rfl, by decide +kernel, rfl, by decide +kernel, by decide +kernel⟩
theorem b_Parser_condition {K : PySem.W.Frag} {x qual : Str} {f : Addr} {fd : FuncData} (F : FunD K x qual (defArgs s_Parser_condition) (defBody s_Parser_condition) (defScope s_Parser_condition) [] [] f fd) : Binds K fd P_Parser_condition [] := F.bindsN fun _ _ _ _ _ _ us hl => match us, hl with | [_], _ => rfl
abbrev N_Parser_both : List Str := ["self", "condition"]
abbrev P_Parser_both : List Str := ["self"]
theorem sc_Parser_both : FnScope N_Parser_both P_Parser_both (defScope s_Parser_both) := ⟨rfl, rfl, rfl, by decide +kernel, rfl, by decide +kernel, by decide +kernel⟩
theorem b_Parser_both {K : PySem.W.Frag} {x qual : Str} {f : Addr} {fd : FuncData} (F : FunD K x qual (defArgs s_Parser_both) (defBody s_Parser_both) (defScope s_Parser_both) [] [] f fd) : Binds K fd P_Parser_both [] := F.bindsN fun _ _ _ _ _ _ us hl => match us, hl with | [_], _ => rfl
abbrev N_Parser_unit : List Str := ["self", "token", "condition", "calendar"]
abbrev P_Parser_unit : List Str := ["self"]
theorem sc_Parser_unit : FnScope N_Parser_unit P_Parser_unit (defScope s_Parser_unit) := ⟨rfl, rfl, rfl, by decide +kernel, rfl, by decide +kernel, by decide +kernel⟩
theorem b_Parser_unit {K : PySem.W.Frag} {x qual : Str} {f : Addr} {fd : FuncData} (F : FunD K x qual (defArgs s_Parser_unit) (defBody s_Parser_unit) (defScope s_Parser_unit) [] [] f fd) : Binds K fd P_Parser_unit [] := F.bindsN fun _ _ _ _ _ _ us hl => match us, hl with | [_], _ => rfl
abbrev N_Parser_compared : List Str := ["self", "first", "relation", "second"]
abbrev P_Parser_compared : List Str := ["self"]
theorem sc_Parser_compared : FnScope N_Parser_compared P_Parser_compared (defScope s_Parser_compared) := ⟨rfl, rfl, rfl, by decide +kernel, rfl, by decide +kernel, by decide +kernel⟩
theorem b_Parser_compared {K : PySem.W.Frag} {x qual : Str} {f : Addr} {fd : FuncData} (F : FunD K x qual (defArgs s_Parser_compared) (defBody s_Parser_compared) (defScope s_Parser_compared) [] [] f fd) : Binds K fd P_Parser_compared [] := F.bindsN fun _ _ _ _ _ _ us hl => match us, hl with | [_], _ => rfl
abbrev N_Parser_end : List Str := ["self"]
abbrev P_Parser_end : List Str := ["self"]
theorem sc_Parser_end : FnScope N_Parser_end P_Parser_end (defScope s_Parser_end) := ⟨rfl, rfl, rfl, by decide +kernel, rfl, by decide +kernel, by decide +kernel⟩
theorem b_Parser_end {K : PySem.W.Frag} {x qual : Str} {f : Addr} {fd : FuncData} (F : FunD K x qual (defArgs s_Parser_end) (defBody s_Parser_end) (defScope s_Parser_end) [] [] f fd) : Binds K fd P_Parser_end [] := F.bindsN fun _ _ _ _ _ _ us hl => match us, hl with | [_], _ => rfl
abbrev N_whole_term : List Str := ["text", "cases", "parser", "term"]
abbrev P_whole_term : List Str := ["text", "cases"]
theorem sc_whole_term : FnScope N_whole_term P_whole_term (defScope s_whole_term) := ⟨rfl, rfl, rfl, by decide +kernel, rfl, by decide +kernel, by decide +kernel⟩
theorem b_whole_term {K : PySem.W.Frag} {x qual : Str} {f : Addr} {fd : FuncData} (F : FunD K x qual (defArgs s_whole_term) (defBody s_whole_term) (defScope s_whole_term) [] [] f fd) : Binds K fd P_whole_term [] := F.bindsN fun _ _ _ _ _ _ us hl => match us, hl with | [_, _], _ => rfl
abbrev N_whole_condition : List Str := ["text", "cases", "parser", "condition"]
abbrev P_whole_condition : List Str := ["text", "cases"]
theorem sc_whole_condition : FnScope N_whole_condition P_whole_condition (defScope s_whole_condition) := ⟨rfl, rfl, rfl, by decide +kernel, rfl, by decide +kernel, by decide +kernel⟩
theorem b_whole_condition {K : PySem.W.Frag} {x qual : Str} {f : Addr} {fd : FuncData} (F : FunD K x qual (defArgs s_whole_condition) (defBody s_whole_condition) (defScope s_whole_condition) [] [] f fd) : Binds K fd P_whole_condition [] := F.bindsN fun _ _ _ _ _ _ us hl => match us, hl with | [_, _], _ => rfl
abbrev N_read_term : List Str := ["text"]
abbrev P_read_term : List Str := ["text"]
theorem sc_read_term : FnScope N_read_term P_read_term (defScope s_read_term) := ⟨rfl, rfl, rfl, by decide +kernel, rfl, by decide +kernel, by decide +kernel⟩
theorem b_read_term {K : PySem.W.Frag} {x qual : Str} {f : Addr} {fd : FuncData} (F : FunD K x qual (defArgs s_read_term) (defBody s_read_term) (defScope s_read_term) [] [] f fd) : Binds K fd P_read_term [] := F.bindsN fun _ _ _ _ _ _ us hl => match us, hl with | [_], _ => rfl
abbrev N_read_condition : List Str := ["text"]
abbrev P_read_condition : List Str := ["text"]
theorem sc_read_condition : FnScope N_read_condition P_read_condition (defScope s_read_condition) := ⟨rfl, rfl, rfl, by decide +kernel, rfl, by decide +kernel, by decide +kernel⟩
theorem b_read_condition {K : PySem.W.Frag} {x qual : Str} {f : Addr} {fd : FuncData} (F : FunD K x qual (defArgs s_read_condition) (defBody s_read_condition) (defScope s_read_condition) [] [] f fd) : Binds K fd P_read_condition [] := F.bindsN fun _ _ _ _ _ _ us hl => match us, hl with | [_], _ => rfl
abbrev N_plus_text : List Str := ["term", "number"]
abbrev P_plus_text : List Str := ["term", "number"]
theorem sc_plus_text : FnScope N_plus_text P_plus_text (defScope s_plus_text) := ⟨rfl, rfl, rfl, by decide +kernel, rfl, by decide +kernel, by decide +kernel⟩
theorem b_plus_text {K : PySem.W.Frag} {x qual : Str} {f : Addr} {fd : FuncData} (F : FunD K x qual (defArgs s_plus_text) (defBody s_plus_text) (defScope s_plus_text) [] [] f fd) : Binds K fd P_plus_text [] := F.bindsN fun _ _ _ _ _ _ us hl => match us, hl with | [_, _], _ => rfl
abbrev N_term_text : List Str := ["term", "word"]
abbrev P_term_text : List Str := ["term"]
theorem sc_term_text : FnScope N_term_text P_term_text (defScope s_term_text) := ⟨rfl, rfl, rfl, by decide +kernel, rfl, by decide +kernel, by decide +kernel⟩
theorem b_term_text {K : PySem.W.Frag} {x qual : Str} {f : Addr} {fd : FuncData} (F : FunD K x qual (defArgs s_term_text) (defBody s_term_text) (defScope s_term_text) [] [] f fd) : Binds K fd P_term_text [] := F.bindsN fun _ _ _ _ _ _ us hl => match us, hl with | [_], _ => rfl
abbrev N_bracketed : List Str := ["condition", "words"]
abbrev P_bracketed : List Str := ["condition", "words"]
theorem sc_bracketed : FnScope N_bracketed P_bracketed (defScope s_bracketed) := ⟨rfl, rfl, rfl, by decide +kernel, rfl, by decide +kernel, by decide +kernel⟩
theorem b_bracketed {K : PySem.W.Frag} {x qual : Str} {f : Addr} {fd : FuncData} (F : FunD K x qual (defArgs s_bracketed) (defBody s_bracketed) (defScope s_bracketed) [] [] f fd) : Binds K fd P_bracketed [] := F.bindsN fun _ _ _ _ _ _ us hl => match us, hl with | [_, _], _ => rfl
abbrev N_condition_text : List Str := ["condition", "word"]
abbrev P_condition_text : List Str := ["condition"]
theorem sc_condition_text : FnScope N_condition_text P_condition_text (defScope s_condition_text) := ⟨rfl, rfl, rfl, by decide +kernel, rfl, by decide +kernel, by decide +kernel⟩
theorem b_condition_text {K : PySem.W.Frag} {x qual : Str} {f : Addr} {fd : FuncData} (F : FunD K x qual (defArgs s_condition_text) (defBody s_condition_text) (defScope s_condition_text) [] [] f fd) : Binds K fd P_condition_text [] := F.bindsN fun _ _ _ _ _ _ us hl => match us, hl with | [_], _ => rfl
abbrev N__law_row : List Str := ["_law_script", "_law_row_here", "_law_k", "_law_cell", "_law_turn", "_law_mixed"]
abbrev P__law_row : List Str := ["_law_script"]
theorem sc__law_row : FnScope N__law_row P__law_row (defScope s__law_row) := ⟨rfl, rfl, rfl, by decide +kernel, rfl, by decide +kernel, by decide +kernel⟩
theorem b__law_row {K : PySem.W.Frag} {x qual : Str} {f : Addr} {fd : FuncData} (F : FunD K x qual (defArgs s__law_row) (defBody s__law_row) (defScope s__law_row) [] [] f fd) : Binds K fd P__law_row [] := F.bindsN fun _ _ _ _ _ _ us hl => match us, hl with | [_], _ => rfl
abbrev N__law_at : List Str := ["_law_row_here", "_law_at_here"]
abbrev P__law_at : List Str := ["_law_row_here", "_law_at_here"]
theorem sc__law_at : FnScope N__law_at P__law_at (defScope s__law_at) := ⟨rfl, rfl, rfl, by decide +kernel, rfl, by decide +kernel, by decide +kernel⟩
theorem b__law_at {K : PySem.W.Frag} {x qual : Str} {f : Addr} {fd : FuncData} (F : FunD K x qual (defArgs s__law_at) (defBody s__law_at) (defScope s__law_at) [] [] f fd) : Binds K fd P__law_at [] := F.bindsN fun _ _ _ _ _ _ us hl => match us, hl with | [_, _], _ => rfl
abbrev N__law_next : List Str := ["_law_row_here", "_law_state"]
abbrev P__law_next : List Str := ["_law_row_here", "_law_state"]
theorem sc__law_next : FnScope N__law_next P__law_next (defScope s__law_next) := ⟨rfl, rfl, rfl, by decide +kernel, rfl, by decide +kernel, by decide +kernel⟩
theorem b__law_next {K : PySem.W.Frag} {x qual : Str} {f : Addr} {fd : FuncData} (F : FunD K x qual (defArgs s__law_next) (defBody s__law_next) (defScope s__law_next) [] [] f fd) : Binds K fd P__law_next [] := F.bindsN fun _ _ _ _ _ _ us hl => match us, hl with | [_, _], _ => rfl
abbrev N__law_term : List Str := ["_law_row_here", "_law_state", "_law_depth_here", "_law_number_here", "_law_kind", "_law_name", "_law_first", "_law_condition_here"]
abbrev P__law_term : List Str := ["_law_row_here", "_law_state", "_law_depth_here"]
theorem sc__law_term : FnScope N__law_term P__law_term (defScope s__law_term) := ⟨rfl, rfl, rfl, by decide +kernel, rfl, by decide +kernel, by decide +kernel⟩
theorem b__law_term {K : PySem.W.Frag} {x qual : Str} {f : Addr} {fd : FuncData} (F : FunD K x qual (defArgs s__law_term) (defBody s__law_term) (defScope s__law_term) [] [] f fd) : Binds K fd P__law_term [] := F.bindsN fun _ _ _ _ _ _ us hl => match us, hl with | [_, _, _], _ => rfl
abbrev N__law_condition : List Str := ["_law_row_here", "_law_state", "_law_depth_here", "_law_number_here", "_law_kind", "_law_first"]
abbrev P__law_condition : List Str := ["_law_row_here", "_law_state", "_law_depth_here"]
theorem sc__law_condition : FnScope N__law_condition P__law_condition (defScope s__law_condition) := ⟨rfl, rfl, rfl, by decide +kernel, rfl, by decide +kernel, by decide +kernel⟩
theorem b__law_condition {K : PySem.W.Frag} {x qual : Str} {f : Addr} {fd : FuncData} (F : FunD K x qual (defArgs s__law_condition) (defBody s__law_condition) (defScope s__law_condition) [] [] f fd) : Binds K fd P__law_condition [] := F.bindsN fun _ _ _ _ _ _ us hl => match us, hl with | [_, _, _], _ => rfl
abbrev N__law_text : List Str := ["_law_node", "_law_word_here", "_law_parts_here", "_law_barred", "_law_k", "_law_part"]
abbrev P__law_text : List Str := ["_law_node"]
theorem sc__law_text : FnScope N__law_text P__law_text (defScope s__law_text) := ⟨rfl, rfl, rfl, by decide +kernel, rfl, by decide +kernel, by decide +kernel⟩
theorem b__law_text {K : PySem.W.Frag} {x qual : Str} {f : Addr} {fd : FuncData} (F : FunD K x qual (defArgs s__law_text) (defBody s__law_text) (defScope s__law_text) [] [] f fd) : Binds K fd P__law_text [] := F.bindsN fun _ _ _ _ _ _ us hl => match us, hl with | [_], _ => rfl
abbrev N__law_tokens : List Str := ["_law_text_here", "_law_found", "_law_at_here", "_law_end"]
abbrev P__law_tokens : List Str := ["_law_text_here"]
theorem sc__law_tokens : FnScope N__law_tokens P__law_tokens (defScope s__law_tokens) := ⟨rfl, rfl, rfl, by decide +kernel, rfl, by decide +kernel, by decide +kernel⟩
theorem b__law_tokens {K : PySem.W.Frag} {x qual : Str} {f : Addr} {fd : FuncData} (F : FunD K x qual (defArgs s__law_tokens) (defBody s__law_tokens) (defScope s__law_tokens) [] [] f fd) : Binds K fd P__law_tokens [] := F.bindsN fun _ _ _ _ _ _ us hl => match us, hl with | [_], _ => rfl
abbrev N__law_word : List Str := ["_law_token", "_law_words"]
abbrev P__law_word : List Str := ["_law_token"]
theorem sc__law_word : FnScope N__law_word P__law_word (defScope s__law_word) := ⟨rfl, rfl, rfl, by decide +kernel, rfl, by decide +kernel, by decide +kernel⟩
theorem b__law_word {K : PySem.W.Frag} {x qual : Str} {f : Addr} {fd : FuncData} (F : FunD K x qual (defArgs s__law_word) (defBody s__law_word) (defScope s__law_word) [] [] f fd) : Binds K fd P__law_word [] := F.bindsN fun _ _ _ _ _ _ us hl => match us, hl with | [_], _ => rfl
abbrev N__law_is_name : List Str := ["_law_token"]
abbrev P__law_is_name : List Str := ["_law_token"]
theorem sc__law_is_name : FnScope N__law_is_name P__law_is_name (defScope s__law_is_name) := ⟨rfl, rfl, rfl, by decide +kernel, rfl, by decide +kernel, by decide +kernel⟩
theorem b__law_is_name {K : PySem.W.Frag} {x qual : Str} {f : Addr} {fd : FuncData} (F : FunD K x qual (defArgs s__law_is_name) (defBody s__law_is_name) (defScope s__law_is_name) [] [] f fd) : Binds K fd P__law_is_name [] := F.bindsN fun _ _ _ _ _ _ us hl => match us, hl with | [_], _ => rfl
abbrev N__law_number : List Str := ["_law_row_here", "_law_at_here", "_law_signed", "_law_most", "_law_end"]
abbrev P__law_number : List Str := ["_law_row_here", "_law_at_here", "_law_signed", "_law_most"]
theorem sc__law_number : FnScope N__law_number P__law_number (defScope s__law_number) := ⟨rfl, rfl, rfl, by decide +kernel, rfl, by decide +kernel, by decide +kernel⟩
theorem b__law_number {K : PySem.W.Frag} {x qual : Str} {f : Addr} {fd : FuncData} (F : FunD K x qual (defArgs s__law_number) (defBody s__law_number) (defScope s__law_number) [] [] f fd) : Binds K fd P__law_number [] := F.bindsN fun _ _ _ _ _ _ us hl => match us, hl with | [_, _, _, _], _ => rfl
abbrev N__law_is : List Str := ["_law_row_here", "_law_at_here", "_law_token"]
abbrev P__law_is : List Str := ["_law_row_here", "_law_at_here", "_law_token"]
theorem sc__law_is : FnScope N__law_is P__law_is (defScope s__law_is) := ⟨rfl, rfl, rfl, by decide +kernel, rfl, by decide +kernel, by decide +kernel⟩
theorem b__law_is {K : PySem.W.Frag} {x qual : Str} {f : Addr} {fd : FuncData} (F : FunD K x qual (defArgs s__law_is) (defBody s__law_is) (defScope s__law_is) [] [] f fd) : Binds K fd P__law_is [] := F.bindsN fun _ _ _ _ _ _ us hl => match us, hl with | [_, _, _], _ => rfl
abbrev N__law_named : List Str := ["_law_row_here", "_law_at_here"]
abbrev P__law_named : List Str := ["_law_row_here", "_law_at_here"]
theorem sc__law_named : FnScope N__law_named P__law_named (defScope s__law_named) := ⟨rfl, rfl, rfl, by decide +kernel, rfl, by decide +kernel, by decide +kernel⟩
theorem b__law_named {K : PySem.W.Frag} {x qual : Str} {f : Addr} {fd : FuncData} (F : FunD K x qual (defArgs s__law_named) (defBody s__law_named) (defScope s__law_named) [] [] f fd) : Binds K fd P__law_named [] := F.bindsN fun _ _ _ _ _ _ us hl => match us, hl with | [_, _], _ => rfl
abbrev N__law_inner : List Str := ["_law_row_here", "_law_at_here", "_law_end"]
abbrev P__law_inner : List Str := ["_law_row_here", "_law_at_here"]
theorem sc__law_inner : FnScope N__law_inner P__law_inner (defScope s__law_inner) := ⟨rfl, rfl, rfl, by decide +kernel, rfl, by decide +kernel, by decide +kernel⟩
theorem b__law_inner {K : PySem.W.Frag} {x qual : Str} {f : Addr} {fd : FuncData} (F : FunD K x qual (defArgs s__law_inner) (defBody s__law_inner) (defScope s__law_inner) [] [] f fd) : Binds K fd P__law_inner [] := F.bindsN fun _ _ _ _ _ _ us hl => match us, hl with | [_, _], _ => rfl
abbrev N__law_two : List Str := ["_law_row_here", "_law_at_here", "_law_end"]
abbrev P__law_two : List Str := ["_law_row_here", "_law_at_here"]
theorem sc__law_two : FnScope N__law_two P__law_two (defScope s__law_two) := ⟨rfl, rfl, rfl, by decide +kernel, rfl, by decide +kernel, by decide +kernel⟩
theorem b__law_two {K : PySem.W.Frag} {x qual : Str} {f : Addr} {fd : FuncData} (F : FunD K x qual (defArgs s__law_two) (defBody s__law_two) (defScope s__law_two) [] [] f fd) : Binds K fd P__law_two [] := F.bindsN fun _ _ _ _ _ _ us hl => match us, hl with | [_, _], _ => rfl
abbrev N__law_atom : List Str := ["_law_row_here", "_law_at_here", "_law_token", "_law_end"]
abbrev P__law_atom : List Str := ["_law_row_here", "_law_at_here"]
theorem sc__law_atom : FnScope N__law_atom P__law_atom (defScope s__law_atom) := ⟨rfl, rfl, rfl, by decide +kernel, rfl, by decide +kernel, by decide +kernel⟩
theorem b__law_atom {K : PySem.W.Frag} {x qual : Str} {f : Addr} {fd : FuncData} (F : FunD K x qual (defArgs s__law_atom) (defBody s__law_atom) (defScope s__law_atom) [] [] f fd) : Binds K fd P__law_atom [] := F.bindsN fun _ _ _ _ _ _ us hl => match us, hl with | [_, _], _ => rfl
abbrev N__law_t : List Str := ["_law_row_here", "_law_at_here", "_law_end"]
abbrev P__law_t : List Str := ["_law_row_here", "_law_at_here"]
theorem sc__law_t : FnScope N__law_t P__law_t (defScope s__law_t) := ⟨rfl, rfl, rfl, by decide +kernel, rfl, by decide +kernel, by decide +kernel⟩
theorem b__law_t {K : PySem.W.Frag} {x qual : Str} {f : Addr} {fd : FuncData} (F : FunD K x qual (defArgs s__law_t) (defBody s__law_t) (defScope s__law_t) [] [] f fd) : Binds K fd P__law_t [] := F.bindsN fun _ _ _ _ _ _ us hl => match us, hl with | [_, _], _ => rfl
abbrev N__law_unit : List Str := ["_law_row_here", "_law_at_here", "_law_end"]
abbrev P__law_unit : List Str := ["_law_row_here", "_law_at_here"]
theorem sc__law_unit : FnScope N__law_unit P__law_unit (defScope s__law_unit) := ⟨rfl, rfl, rfl, by decide +kernel, rfl, by decide +kernel, by decide +kernel⟩
theorem b__law_unit {K : PySem.W.Frag} {x qual : Str} {f : Addr} {fd : FuncData} (F : FunD K x qual (defArgs s__law_unit) (defBody s__law_unit) (defScope s__law_unit) [] [] f fd) : Binds K fd P__law_unit [] := F.bindsN fun _ _ _ _ _ _ us hl => match us, hl with | [_, _], _ => rfl
abbrev N__law_c : List Str := ["_law_row_here", "_law_at_here", "_law_end"]
abbrev P__law_c : List Str := ["_law_row_here", "_law_at_here"]
theorem sc__law_c : FnScope N__law_c P__law_c (defScope s__law_c) := ⟨rfl, rfl, rfl, by decide +kernel, rfl, by decide +kernel, by decide +kernel⟩
theorem b__law_c {K : PySem.W.Frag} {x qual : Str} {f : Addr} {fd : FuncData} (F : FunD K x qual (defArgs s__law_c) (defBody s__law_c) (defScope s__law_c) [] [] f fd) : Binds K fd P__law_c [] := F.bindsN fun _ _ _ _ _ _ us hl => match us, hl with | [_, _], _ => rfl
abbrev N__law_told : List Str := ["_law_kind", "_law_text_here", "_law_node", "why"]
abbrev P__law_told : List Str := ["_law_kind", "_law_text_here"]
theorem sc__law_told : FnScope N__law_told P__law_told (defScope s__law_told) := ⟨rfl, rfl, rfl, by decide +kernel, rfl, by decide +kernel, by decide +kernel⟩
theorem b__law_told {K : PySem.W.Frag} {x qual : Str} {f : Addr} {fd : FuncData} (F : FunD K x qual (defArgs s__law_told) (defBody s__law_told) (defScope s__law_told) [] [] f fd) : Binds K fd P__law_told [] := F.bindsN fun _ _ _ _ _ _ us hl => match us, hl with | [_, _], _ => rfl
abbrev N_law : List Str := ["_law_script", "_law_row_here", "_law_k", "_law_kind", "_law_depth_here", "_law_text_here", "_law_parts_here", "_law_at_here", "_law_menu", "_law_extra", "_law_change", "_law_end", "_law_due", "_law_told_here", "_law_bad", "_law_deep"]
abbrev P_law : List Str := ["_law_script"]
theorem sc_law : FnScope N_law P_law (defScope s_law) := ⟨rfl, rfl, rfl, by decide +kernel, rfl, by decide +kernel, by decide +kernel⟩
theorem b_law {K : PySem.W.Frag} {x qual : Str} {f : Addr} {fd : FuncData} (F : FunD K x qual (defArgs s_law) (defBody s_law) (defScope s_law) [] [] f fd) : Binds K fd P_law [] := F.bindsN fun _ _ _ _ _ _ us hl => match us, hl with | [_], _ => rfl
end KT

namespace KT
open PySem PySem.Spec
open PyProof.Rows L2

/-! ### a def of the module, a method of the parser, as callers take them -/
structure Cl (P : Program) (w : World) (K : PySem.W.Frag) (mg : Str → Option Value) (base : Heap) (k : Nat) (x : Str) (ps : List Str) (sp : Sp) : Prop where
  fn : ∃ fd, FnOk P w K mg base (L2.CX P w) k (He.ga K x) fd ps sp ∧ Binds K fd ps []
  gm : mg x = some (.ref (He.ga K x))
  kp : PySem.W.keepIn K (.ref (He.ga K x)) = true
structure Ml (P : Program) (w : World) (K : PySem.W.Frag) (mg : Str → Option Value) (base : Heap) (k : Nat) (m : Str) (ps : List Str) (sp : Sp) : Prop where
  fn : ∃ fd, FnOk P w K mg base (L2.CX P w) k (He.ma K (PC_ K) m) fd ps sp ∧ Binds K fd ps []
  cl : Cls K (PC_ K)
  ms : Meth K (PC_ K) m (He.ma K (PC_ K) m)
section
variable {P : Program} {w : World} {K : PySem.W.Frag} {mg : Str → Option Value} {base : Heap}
theorem Cl.mono {j k : Nat} {x : Str} {ps : List Str} {sp : Sp} (c : Cl P w K mg base j x ps sp) (h : j ≤ k) : Cl P w K mg base k x ps sp := by
  obtain ⟨fd, F, b⟩ := c.fn
  exact ⟨⟨fd, F.mono h, b⟩, c.gm, c.kp⟩
theorem Ml.mono {j k : Nat} {x : Str} {ps : List Str} {sp : Sp} (c : Ml P w K mg base j x ps sp) (h : j ≤ k) : Ml P w K mg base k x ps sp := by
  obtain ⟨fd, F, b⟩ := c.fn
  exact ⟨⟨fd, F.mono h, b⟩, c.cl, c.ms⟩
theorem cl_of {x : Str} {pa : Arguments} {bd : List Stmt} {sc : Scope} {N ps : List Str} {k : Nat} {sp : Sp} (F : ∃ fd, FunD K x x pa bd sc [] [] (He.ga K x) fd) (g : mg x = some (.ref (He.ga K x))) (S : FnScope N ps sc)
    (b : ∀ fd, FunD K x x pa bd sc [] [] (He.ga K x) fd → Binds K fd ps []) (len : ∀ vs H Q E, sp vs H Q E → vs.length = ps.length)
    (hb : ∀ (cdv : Value) (A : Around) (outer : List Env) (s : Shared) (H : Hp) (vs : List V) (Q : VK) (E : XK), Room k (A.deeper (envOfC x sc s.heap.objs.size (He.ga K x) cdv)) → sp vs H Q E →
      ∃ t, PSs (cxOf (L2.CX P w) P w K mg base N x sc (He.ga K x) cdv A outer s H E) bd t ∧ t { nx := fun _ H' => Q .non H', rt := Q } (start N vs) H) : Cl P w K mg base (k + 1) x ps sp := by
  obtain ⟨fd, F⟩ := F
  exact ⟨⟨fd, FunD.ok F S len hb, b fd F⟩, g, F.kp⟩
theorem ml_of {m q : Str} {pa : Arguments} {bd : List Stmt} {sc : Scope} {N ps : List Str} {k : Nat} {sp : Sp} (F : ∃ fd, FunD K m q pa bd sc [] [] (He.ma K (PC_ K) m) fd) (c : Cls K (PC_ K)) (ms : Meth K (PC_ K) m (He.ma K (PC_ K) m)) (S : FnScope N ps sc)
    (b : ∀ fd, FunD K m q pa bd sc [] [] (He.ma K (PC_ K) m) fd → Binds K fd ps []) (len : ∀ vs H Q E, sp vs H Q E → vs.length = ps.length)
    (hb : ∀ (cdv : Value) (A : Around) (outer : List Env) (s : Shared) (H : Hp) (vs : List V) (Q : VK) (E : XK), Room k (A.deeper (envOfC q sc s.heap.objs.size (He.ma K (PC_ K) m) cdv)) → sp vs H Q E →
      ∃ t, PSs (cxOf (L2.CX P w) P w K mg base N q sc (He.ma K (PC_ K) m) cdv A outer s H E) bd t ∧ t { nx := fun _ H' => Q .non H', rt := Q } (start N vs) H) : Ml P w K mg base (k + 1) m ps sp := by
  obtain ⟨fd, F⟩ := F
  exact ⟨⟨fd, FunD.ok F S len hb, b fd F⟩, c, ms⟩
/-- what a callee lets out leaves the def -/
theorem pasE {N : List Str} {q : Str} {sc : Scope} {f : Addr} {cdv : Value} {A : Around} {outer : List Env} {s : Shared} {H : Hp} {E : XK} :
    Passes (L2.CX P w) (cxOf (L2.CX P w) P w K mg base N q sc f cdv A outer s H E) E := passes_call (takes_of rfl rfl rfl rfl) fun _ _ _ _ h => h
end
section
variable {X : Cx} {j k : Nat} {E : XK} {x m : Str} {ps : List Str} {sp : Sp} {e o : Expr} {es : List Expr} {ta : TE} {t : TA} {p pos apos : Pos}
theorem pe_cl (c : Cl X.prog X.w X.K X.mg X.base k x ps sp) (hr : Room j X.A) (hk : k ≤ j) (hx : Passes (L2.CX X.prog X.w) X E) (ha : PA X (e :: es) t) (hg : Gl X x := by rfl)
    (hdb : (x == ("__debug__" : Str)) = false := by decide) (he : starEach (e :: es) X.env = (false, eval e X.env) :: starEach es X.env := by rfl) (hpl : (backTo pos (starEach es X.env)).any (·.1) = false := by rfl) :
    PE X (.Call (.Name x p) (e :: es) [] pos) (tCall sp [] E t) := by
  obtain ⟨fd, F, b⟩ := c.fn
  exact pe_call F (hr.mono hk) hg c.gm c.kp b .nil hx ha hdb he hpl
theorem pe_ml {pl : Sem Bool} (c : Ml X.prog X.w X.K X.mg X.base k m ps sp) (hr : Room j X.A) (hk : k ≤ j) (hx : Passes (L2.CX X.prog X.w) X E) (ho : PE X o ta) (ha : PA X (e :: es) t)
    (hst : starEach (e :: es) X.env = (false, eval e X.env) :: starEach es X.env := by rfl) (hpl : (backTo pos (starEach es X.env)).any (·.1) = false := by rfl)
    (ht : eval (.Call (.Attribute o m apos) (e :: es) [] pos) X.env = (do
      let ov ← eval o X.env
      standAt apos.atName
      let (f, first) ← holding [ov] (getMethod ov m pl)
      callWith pos f first (backTo pos (starEach (e :: es) X.env)) (backToKw pos (keywordEach [] X.env))) := by rfl) :
    PE X (.Call (.Attribute o m apos) (e :: es) [] pos) (tMeth (PC_ X.K) m sp [] E ta t) := by
  obtain ⟨fd, F, b⟩ := c.fn
  exact pe_meth ho c.cl c.ms F (hr.mono hk) b .nil hx ha hst hpl ht
theorem pe_ml0 {pl : Sem Bool} (c : Ml X.prog X.w X.K X.mg X.base k m ps sp) (hr : Room j X.A) (hk : k ≤ j) (hx : Passes (L2.CX X.prog X.w) X E) (ho : PE X o ta)
    (ht : eval (.Call (.Attribute o m apos) [] [] pos) X.env = (do
      let ov ← eval o X.env
      standAt apos.atName
      let (f, first) ← holding [ov] (getMethod ov m pl)
      callWith pos f first (backTo pos (starEach [] X.env)) (backToKw pos (keywordEach [] X.env))) := by rfl) :
    PE X (.Call (.Attribute o m apos) [] [] pos) (tMeth (PC_ X.K) m sp [] E ta tNil) := by
  obtain ⟨fd, F, b⟩ := c.fn
  exact pe_meth0 ho c.cl c.ms F (hr.mono hk) b .nil hx ht
end

/-! ### raise BadForm(1) -/
def spBI (C : Addr) : Sp := fun vs H Q _ => ∃ (a : Addr) (y : V), vs = [.ref a, y] ∧ H a = some (exo a C none) ∧ ∀ dx, H dx = none → dx ≠ a → Q .non (upd (upd H dx (exd dx [(("line" : Str), y)])) a (exo a C (some dx)))
section
variable {P : Program} {w : World} {K : PySem.W.Frag} {mg : Str → Option Value} {base : Heap}
theorem ok_bi (T : Tp w K mg) : ∃ fd, FnOk P w K mg base (L2.CX P w) 1 (He.ma K (BF_ K) "__init__") fd P_BadForm_init (spBI (BF_ K)) ∧ Binds K fd P_BadForm_init [] := by
  obtain ⟨fd, F⟩ := T.f_BadForm_init
  refine ⟨fd, FunD.ok F sc_BadForm_init (fun vs H Q E h => ?_) (fun cdv A outer s H vs Q E hr h => ?_), b_BadForm_init F⟩
  · obtain ⟨a, y, rfl, _⟩ := h
    rfl
  · obtain ⟨a, y, rfl, ha, k⟩ := h
    refine ⟨_, pss_one (ps_ost (pv 0) (pv 1)), ?_⟩
    exact ⟨_, rfl, _, rfl, a, BF_ K, rfl, T.oex, T.bfLine, .inl ⟨ha, fun dx n ne => k dx n ne⟩⟩
end
/-- what the raise asks -/
def tBad (K : PySem.W.Frag) (W : WX) : TS := fun _ σ H => ∀ d, H d = none → W (.ref (BF_ K)) (some d) σ (upd H d (.xd [(("line" : Str), V.int 1)]))
theorem ps_bad {X : Cx} {W : WX} {k j : Nat} {p p2 pos pos2 : Pos} (T : Tp X.w X.K X.mg) (hr : Room k X.A) (hk : 2 ≤ k) (hc : X.calm = true) (tk : Takes X W) (hx : Passes (L2.CX X.prog X.w) X (fun _ _ _ => False)) (hg : Gl X "BadForm" := by rfl) :
    PS X (.Raise (some (.Call (.Name "BadForm" p) [.Constant (.int 1) j p2] [] pos)) none pos2) (tBad X.K W) := by
  obtain ⟨fd, F, b⟩ := ok_bi (P := X.prog) (base := X.base) T
  have z := ps_raise (pos := pos2) hc tk (pmk_oex (pos := pos) (p := p) T.oex T.bfInit T.bfFn F (hr.mono hk) b .nil hx hg T.g_BadForm (pa_cons (pe_int (j := j) (pos := p2) (i := 1)) pa_nil))
  constructor
  intro pins s σ H D I h
  refine z.run pins s σ H D I ?_
  refine ⟨by show 1 ≤ 1000; decide, fun a na => ?_⟩
  refine ⟨a, .int 1, rfl, upd_same, fun dx ndx ne => ⟨rfl, dx, _, upd_same, by rw [upd_ne ne, upd_same], ?_, ?_⟩⟩
  · rw [upd_ne ne] at ndx
    exact ndx
  · have ndx' : H dx = none := by rw [upd_ne ne] at ndx; exact ndx
    have e : upd (del (upd (upd (upd H a (exo a (BF_ X.K) none)) dx (exd dx [(("line" : Str), V.int 1)])) a (exo a (BF_ X.K) (some dx))) a) dx (.xd [(("line" : Str), V.int 1)]) = upd H dx (.xd [(("line" : Str), V.int 1)]) := by
      funext b
      by_cases hb : b = dx
      · rw [hb, upd_same, upd_same]
      · rw [upd_ne hb, upd_ne hb]
        by_cases ha : b = a
        · rw [ha, del_same, na]
        · rw [del_ne ha, upd_ne ha, upd_ne hb, upd_ne ha]
    rw [e]
    exact h dx ndx'
theorem pas0 {X : Cx} : Passes (L2.CX X.prog X.w) X (fun _ _ _ => False) := passL

/-! ### heaps -/
/-- all but the object at p is as it was -/
def But (p : Addr) (H H' : Hp) : Prop := ∀ b o, H b = some o → b ≠ p → H' b = some o
theorem But.refl {p : Addr} (H : Hp) : But p H H := fun _ _ h _ => h
theorem But.trans {p : Addr} {H H1 H2 : Hp} (a : But p H H1) (b : But p H1 H2) : But p H H2 := fun c o h n => b c o (a c o h n) n
theorem Same.but {p : Addr} {H H' : Hp} (a : Same H H') : But p H H' := fun b o h _ => a b o h
theorem same_upd {H : Hp} {p : Addr} {o : HO} (h : H p = none) : Same H (upd H p o) := fun b u q => by rw [upd_ne (ne_of_none q h)]; exact q
theorem but_upd {H : Hp} {p : Addr} {o : HO} : But p H (upd H p o) := fun b u q n => by rw [upd_ne n]; exact q
theorem same_sqt {K : PySem.W.Frag} {H H' : Hp} {a : Addr} {xs : List V} (e : Same H H') (h : SqT K H a xs) : SqT K H' a xs := by
  rcases h with (h | ⟨o, h⟩) | h
  · exact .inl (.inl (e _ _ h))
  · exact .inl (.inr ⟨o, e _ _ h⟩)
  · exact .inr h
/-- nothing that a datum leans on is at p -/
def Safe (p : Addr) (H : Hp) : Prop := ∀ o, H p = some o → (∀ xs, o ≠ .tup xs) ∧ (∀ xs, o ≠ .lst xs) ∧ ∀ u v, o ≠ .frz u v
theorem But.sqt {K : PySem.W.Frag} {p : Addr} {H H' : Hp} {a : Addr} {xs : List V} (e : But p H H') (s : Safe p H) (h : SqT K H a xs) : SqT K H' a xs := by
  rcases h with (h | ⟨o, h⟩) | h
  · exact .inl (.inl (e _ _ h fun z => (s _ (z ▸ h)).1 _ rfl))
  · exact .inl (.inr ⟨o, e _ _ h fun z => (s _ (z ▸ h)).2.2 _ _ rfl⟩)
  · exact .inr h
theorem But.sql {K : PySem.W.Frag} {p : Addr} {H H' : Hp} {a : Addr} {xs : List V} (e : But p H H') (s : Safe p H) (h : SqL K H a xs) : SqL K H' a xs := by
  rcases h with (h | ⟨o, h⟩) | h
  · exact .inl (.inl (e _ _ h fun z => (s _ (z ▸ h)).2.1 _ rfl))
  · exact .inl (.inr ⟨o, e _ _ h fun z => (s _ (z ▸ h)).2.2 _ _ rfl⟩)
  · exact .inr h
mutual
theorem Dp.but {K : PySem.W.Frag} {p : Addr} {H H' : Hp} (e : But p H H') (s : Safe p H) : ∀ {v : V} {d : PyData}, Dp K H v d → Dp K H' v d
  | _, _, .non => .non
  | _, _, .bl b => .bl b
  | _, _, .int i => .int i
  | _, _, .str x => .str x
  | _, _, .lst h1 h2 => .lst (e.sql s h1) (DpAll.but e s h2)
  | _, _, .tup h1 h2 => .tup (e.sqt s h1) (DpAll.but e s h2)
theorem DpAll.but {K : PySem.W.Frag} {p : Addr} {H H' : Hp} (e : But p H H') (s : Safe p H) : ∀ {vs : List V} {ds : List PyData}, DpAll K H vs ds → DpAll K H' vs ds
  | _, _, .nil => .nil
  | _, _, .cons h1 h2 => .cons (Dp.but e s h1) (DpAll.but e s h2)
end
mutual
theorem Dp.same {K : PySem.W.Frag} {H H' : Hp} (e : Same H H') : ∀ {v : V} {d : PyData}, Dp K H v d → Dp K H' v d
  | _, _, .non => .non
  | _, _, .bl b => .bl b
  | _, _, .int i => .int i
  | _, _, .str x => .str x
  | _, _, .lst h1 h2 => .lst (e.seq h1) (DpAll.same e h2)
  | _, _, .tup h1 h2 => .tup (same_sqt e h1) (DpAll.same e h2)
theorem DpAll.same {K : PySem.W.Frag} {H H' : Hp} (e : Same H H') : ∀ {vs : List V} {ds : List PyData}, DpAll K H vs ds → DpAll K H' vs ds
  | _, _, .nil => .nil
  | _, _, .cons h1 h2 => .cons (Dp.same e h1) (DpAll.same e h2)
end
/-- a BadForm of line 1 goes out, all but p as it was -/
def Out (K : PySem.W.Frag) (p : Addr) (H : Hp) (E : XK) : Prop := ∀ d H', But p H H' → H' d = some (.xd [(("line" : Str), V.int 1)]) → E (.ref (BF_ K)) (some d) H'
def Out0 (K : PySem.W.Frag) (H : Hp) (E : XK) : Prop := ∀ d H', Same H H' → H' d = some (.xd [(("line" : Str), V.int 1)]) → E (.ref (BF_ K)) (some d) H'
end KT

namespace KT
open PySem PySem.Spec
open PyProof.Rows L2 KM
section
variable {P : Program} {w : World} {K : PySem.W.Frag} {mg : Str → Option Value} {base : Heap}
/-- a loop lets nothing else out than the def -/
theorem pOwn {N : List Str} {q : Str} {sc : Scope} {f : Addr} {cdv : Value} {A : Around} {outer : List Env} {s : Shared} {H : Hp} {E : XK} :
    PassesOwn (model (cxOf (L2.CX P w) P w K mg base N q sc f cdv A outer s H E).prog (cxOf (L2.CX P w) P w K mg base N q sc f cdv A outer s H E).w) (cxOf (L2.CX P w) P w K mg base N q sc f cdv A outer s H E).A (cxOf (L2.CX P w) P w K mg base N q sc f cdv A outer s H E).env (cxOf (L2.CX P w) P w K mg base N q sc f cdv A outer s H E).xe := passes_of rfl
end
abbrev rAllB (K : PySem.W.Frag) : List V → Hp → VK → Prop := fun xs H Q => ∃ (a : Addr) (bs : List Bool), xs = [.ref a] ∧ SqL K H a (bs.map V.bl) ∧ Q (.bl (bs.all id)) H
theorem set_wipe {σ : L2.St} {j : Nat} {v : Option V} : wipe ((wipe σ [j]).set j v) [j] = wipe σ [j] := by
  show ((σ.set j none).set j v).set j none = σ.set j none
  rw [List.set_set, List.set_set]
/-- a list of what a test says of each sign of a text -/
theorem lc_text {z : Str} {σ : L2.St} {H1 : Hp} {j : Nat} {te : TE} {Q : VK} {p : Nat → Bool} (hl : z.length ≤ 1000000)
    (hte : ∀ c H' (Q' : VK), Q' (.bl (p c)) H' → te ((wipe σ [j]).set j (some (.str ⟨#[c]⟩))) H' Q')
    (hq : ∀ D H', H1 D = none → Same H1 H' → H' D = some (.lst (((tl z).map p).map V.bl)) → Q (.ref D) H') :
    ∀ D, H1 D = none → ∃ W : Nat → Nat → Hp → Prop, (∃ m, W 0 m (upd H1 D (.lst []))) ∧ ∀ i m H, W i m H →
      ((Its z).stop i H ∧ Q (.ref D) H) ∨ ((Its z).go i H ∧ ∃ Nx : Hp → Prop, (∀ H', Nx H' → ∃ m', m' < m ∧ W (i + 1) m' H') ∧ ∀ x H', (Its z).yld i H x H' → gName j x (wipe σ [j]) H' fun σ2 H2 => wipe σ2 [j] = wipe σ [j] ∧ tYes σ2 H2 fun b H3 =>
        if b = true then te σ2 H3 fun y H4 => ∃ acc, H4 D = some (.lst acc) ∧ acc.length < sizeLine ∧ Nx (upd H4 D (.lst (acc ++ [y]))) else Nx H3) := by
  intro D hD
  have hz : z.cps.size = (tl z).length := by simp [tl]
  refine ⟨fun i m H => m = (tl z).length - i ∧ i ≤ (tl z).length ∧ Same H1 H ∧ H D = some (.lst ((((tl z).take i).map p).map V.bl)), ⟨_, rfl, Nat.zero_le _, same_upd hD, upd_same⟩, ?_⟩
  rintro i m H ⟨rfl, hi, hs, hd⟩
  by_cases lt : i < (tl z).length
  · refine .inr ⟨by show i < z.cps.size; omega, fun H' => Same H1 H' ∧ H' D = some (.lst ((((tl z).take (i + 1)).map p).map V.bl)), fun H' ⟨h1, h2⟩ => ⟨_, by omega, rfl, lt, h1, h2⟩, fun x H' y => ?_⟩
    obtain ⟨rfl, c, hc, rfl⟩ := y
    refine ⟨set_wipe, ?_⟩
    show te _ H' _
    refine hte c H' _ ?_
    have ec : (tl z)[i]? = some c := by
      have : z.cps.toList[i]? = z.cps[i]? := Array.getElem?_toList
      exact this.trans hc
    refine ⟨_, hd, ?_, fun b o q => ?_, ?_⟩
    · rw [List.length_map, List.length_map, List.length_take]
      have : z.length = (tl z).length := by show z.cps.size = _; exact hz
      have h2 : (1000000 : Nat) < sizeLine := by decide
      omega
    · rw [upd_ne (ne_of_none q hD)]; exact hs b o q
    · rw [upd_same, List.take_add_one, ec, Option.toList_some, List.map_append, List.map_append]
      rfl
  · have e : i = (tl z).length := by omega
    subst e
    rw [List.take_length] at hd
    exact .inl ⟨by show z.cps.size ≤ _; omega, hq D H hD hs hd⟩
theorem tlc_text {z : Str} {σ : L2.St} {H : Hp} {i j : Nat} {js : List Nat} {te : TE} {Q : VK} {p : Nat → Bool} (hi : σ[i]? = some (some (.str z))) (ho : js = [j]) (hl : z.length ≤ 1000000)
    (hte : ∀ c H' (Q' : VK), Q' (.bl (p c)) H' → te ((wipe σ [j]).set j (some (.str ⟨#[c]⟩))) H' Q')
    (hq : ∀ D H', H D = none → Same H H' → H' D = some (.lst (((tl z).map p).map V.bl)) → Q (.ref D) H') : tLc (iStr (tVar i)) (gName j) tYes te js σ H Q := by
  rw [ho]
  exact ⟨_, hi, _, rfl, lc_text (Q := Q) hl hte hq⟩
theorem call1 {r : List V → Hp → VK → Prop} {t : TE} {σ : L2.St} {H : Hp} {Q : VK} (h : t σ H fun x H1 => r [x] H1 Q) : tCB r (tCons t tNil) σ H Q := h
theorem all_bl {l : List Nat} {p : Nat → Bool} : (l.map p).all id = l.all p := by
  rw [List.all_map]; rfl
theorem inV_str {x : Str} : ∀ {l : List Str}, inV (.str x) (l.map V.str) = l.contains x
  | [] => rfl
  | y :: r => by
    have ih := inV_str (x := x) (l := r)
    unfold inV at ih ⊢
    rw [List.map_cons, List.any_cons, ih, List.contains_cons]
    show (y == x || _) = (x == y || _)
    rw [show (y == x) = (x == y) from Bool.eq_iff_iff.mpr ⟨fun h => by rw [eq_of_beq h]; exact beq_self_eq_true _, fun h => by rw [eq_of_beq h]; exact beq_self_eq_true _⟩]
theorem flat_strs : ∀ l : List Str, (l.map V.str).all flatV = true
  | [] => rfl
  | _ :: r => flat_strs r
theorem len_tl (z : Str) : z.length = (tl z).length := by show z.cps.size = _; simp [tl]
theorem sl6 {n : Nat} (h : n ≤ 1000000) : n ≤ sizeLine := Nat.le_trans h (by decide)
theorem mem_SMALL (c : Nat) : decide (c ∈ tl ("abcdefghijklmnopqrstuvwxyz" : Str)) = sm c := by
  have e : tl ("abcdefghijklmnopqrstuvwxyz" : Str) = List.range' 97 26 := by decide +kernel
  rw [e]
  unfold sm
  rw [← Bool.decide_and]
  refine decide_eq_decide.mpr ?_
  rw [List.mem_range'_1]
  omega
theorem mem_DIGITS (c : Nat) : decide (c ∈ tl ("0123456789" : Str)) = dg c := by
  have e : tl ("0123456789" : Str) = List.range' 48 10 := by decide +kernel
  rw [e]
  unfold dg
  rw [← Bool.decide_and]
  refine decide_eq_decide.mpr ?_
  rw [List.mem_range'_1]
  omega
theorem mem_REST (c : Nat) : decide (c ∈ tl ("abcdefghijklmnopqrstuvwxyz0123456789" : Str)) = al c := by
  have e : tl ("abcdefghijklmnopqrstuvwxyz0123456789" : Str) = List.range' 97 26 ++ List.range' 48 10 := by decide +kernel
  rw [e]
  unfold al sm dg
  rw [← Bool.decide_and, ← Bool.decide_and, ← Bool.decide_or]
  refine decide_eq_decide.mpr ?_
  rw [List.mem_append, List.mem_range'_1, List.mem_range'_1]
  omega
theorem mem_MARKS (c : Nat) : decide (c ∈ tl ("@+-(),<=?[]" : Str)) = mk c := by
  have e : tl ("@+-(),<=?[]" : Str) = [64, 43, 45, 40, 41, 44, 60, 61, 63, 91, 93] := by decide +kernel
  rw [e]
  unfold mk
  rw [List.contains_eq_mem]
/-! ### is_name -/
def spName : Sp := fun vs H Q _ => ∃ z : Str, vs = [.str z] ∧ z.length ≤ 1000000 ∧ ∀ H', Same H H' → Q (.bl (isName z)) H'
section
variable {P : Program} {w : World} {K : PySem.W.Frag} {mg : Str → Option Value} {base : Heap}
theorem ok_is_name (T : Tp w K mg) : Cl P w K mg base 1 "is_name" P_is_name spName := by
  refine cl_of T.f_is_name T.g_is_name sc_is_name (fun _ F => b_is_name F) (fun vs H Q E h => ?_) (fun cdv A outer s H vs Q E hr h => ?_)
  · obtain ⟨z, rfl, _⟩ := h
    rfl
  obtain ⟨z, rfl, hl, k⟩ := h
  refine ⟨_, (pss_cons (ps_if (PW.pt (pw_or (pt_cmpR op_lt (pe_callB call_len_str rfl T.z_len PySem.boot_len (pa_cons (pv 0) pa_nil)) pe_int (nomark _)) (pw_or (pt_cmpR op_gt (pe_callB call_len_str rfl T.z_len PySem.boot_len (pa_cons (pv 0) pa_nil)) (C8.pe_gc rfl T.c_MAX_NAME) (nomark _)) (pw_or1 (pt_cmpR op_in_seq (pv 0) (C8.pe_gc rfl T.c_WORDS) (by rfl)))))) (pss_one (ps_ret pe_bl)) pss_nil)
      (pss_one (ps_ret (pe_and (pe_cmpR op_in_sign (pe_ix ix_str (pv 0) pe_int (fun _ _ => rfl)) (C8.pe_gc rfl T.c_SMALL) (by rfl)) (pe_one (pe_callB (cr_all rfl) rfl T.z_all (by decide +kernel) (pa_cons (pe_lc (own := [("sign", 1)]) (g := gName 1) rfl sc_is_name.nd (pi_str (pv 0)) (blkOk_by (own := [("sign", 1)]) (N := N_is_name) (sc := defScope s_is_name) (by decide +kernel)) (fun _ _ _ _ _ => (pg_name (i := 1) sc_is_name.nd rfl (Or.inl rfl))) (fun _ _ _ _ _ => pts_nil) (fun _ _ _ _ _ => (pe_cmpR op_in_sign (pv 1) (C8.pe_gc rfl T.c_REST) (by rfl)))) pa_nil))))))), ?_⟩
  have hz := sl6 hl
  have el := len_tl z
  refine ⟨_, rfl, _, rfl, hz, _, _, rfl, rfl, _, rfl, ?_⟩
  refine ite2 (fun c => ?_) (fun c => ?_)
  · refine iteT ?_
    have c' : (z.length : Int) < 1 := of_decide_eq_true c
    have e : isName z = false := by
      unfold isName
      rw [decide_eq_false (by omega)]; rfl
    have q := k H (Same.refl H)
    rw [e] at q
    exact q
  have c1 : ¬ (z.length : Int) < 1 := of_decide_eq_false (Bool.eq_false_iff.mpr c)
  refine ⟨_, rfl, _, rfl, hz, _, _, rfl, rfl, _, rfl, ?_⟩
  refine ite2 (fun c => ?_) (fun c => ?_)
  · refine iteT ?_
    have c' : (20 : Int) < (z.length : Int) := of_decide_eq_true c
    have e : isName z = false := by
      unfold isName
      rw [decide_eq_false (p := (tl z).length ≤ 20) (by omega), Bool.false_and, Bool.and_false]
    have q := k H (Same.refl H)
    rw [e] at q
    exact q
  have c2 : ¬ (20 : Int) < (z.length : Int) := of_decide_eq_false (Bool.eq_false_iff.mpr c)
  refine ⟨_, rfl, _, _, rfl, .inr (T.words H), rfl, flat_strs words, _, rfl, ?_⟩
  have ew : inV (.str z) (wordsV.map (He.Dv.v K)) = words.contains z := inV_str (l := words)
  refine ite2 (fun c => ?_) (fun c => ?_)
  · have c' : words.contains z = true := ew.symm.trans c
    have e : isName z = false := by
      unfold isName
      rw [c']; simp
    have q := k H (Same.refl H)
    rw [e] at q
    exact q
  have c3 : words.contains z = false := ew.symm.trans (Bool.eq_false_iff.mpr c)
  cases ez : tl z with
  | nil => rw [ez] at el; simp at el; omega
  | cons a l =>
  have ea : atI z.cps.toList (0 : Int) = some a := by
    have : atI (tl z) ((0 : Nat) : Int) = some a := atI_nat (by rw [ez]; rfl)
    exact this
  refine ⟨_, rfl, z, 0, a, rfl, rfl, hz, ea, a, _, rfl, rfl, _, rfl, ?_⟩
  have en : isName z = (sm a && (tl z).all al) := by
    unfold isName
    rw [decide_eq_true (p := 1 ≤ (tl z).length) (by omega), decide_eq_true (p := (tl z).length ≤ 20) (by omega), c3, ez]; rfl
  have e1 : decide (a ∈ tl ("abcdefghijklmnopqrstuvwxyz" : Str)) = sm a := mem_SMALL a
  refine ite2 (fun c => ?_) (fun c => ?_)
  · have c' : sm a = true := e1.symm.trans c
    refine call1 (tlc_text (p := al) rfl rfl hl (fun c H' Q' q => ?_) (fun D H' nD hs hd => ?_))
    · refine ⟨_, rfl, c, _, rfl, rfl, ?_⟩
      rw [mem_REST c]; exact q
    · refine ⟨D, _, rfl, SqL.of hd, ?_⟩
      rw [all_bl]
      have q := k H' hs
      rw [en, c', Bool.true_and] at q
      exact q
  · have c' : sm a = false := e1.symm.trans (Bool.eq_false_iff.mpr c)
    have q := k H (Same.refl H)
    rw [en, c', Bool.false_and] at q
    exact q
end
end KT

namespace KT
open PySem PySem.Spec
open PyProof.Rows L2 KM
theorem atI_str {z : Str} {n : Nat} {c : Nat} {r : List Nat} (h : (tl z).drop n = c :: r) : atI z.cps.toList ((n : Nat) : Int) = some c := by
  refine atI_nat ?_
  have e : ((tl z).drop n)[0]? = some c := by rw [h]; rfl
  rw [List.getElem?_drop] at e
  exact e
theorem drop_lt {l r : List Nat} {n c : Nat} (h : l.drop n = c :: r) : n < l.length := by
  have := congrArg List.length h
  rw [List.length_drop, List.length_cons] at this
  omega
theorem drop_next {l r : List Nat} {n c : Nat} (h : l.drop n = c :: r) : l.drop (n + 1) = r := by
  rw [← List.drop_drop, h]; rfl
theorem cut2 {z : Str} {n : Nat} {c : Nat} {r : List Nat} (h : (tl z).drop n = c :: r) : decide (V.str (cutS z (some ((n : Nat) : Int)) (some (((n : Nat) : Int) + 2))) = V.str "<=") = decide (c = 60 ∧ r.head? = some 61) := by
  have hn := drop_lt h
  have el := len_tl z
  have e2 : (((n : Nat) : Int) + 2) = ((n + 2 : Nat) : Int) := by omega
  have et : tl (cutS z (some ((n : Nat) : Int)) (some (((n : Nat) : Int) + 2))) = (c :: r).take 2 := by
    rw [e2]
    unfold cutS
    rw [HT.sIx_nat, HT.sIx_nat]
    show ((tl z).drop (min n z.length)).take _ = _
    rw [show min n z.length = n by omega, h]
    by_cases q : n + 2 ≤ z.length
    · rw [show min (n + 2) z.length - n = 2 by omega]
    · have hl := congrArg List.length h
      rw [List.length_drop, List.length_cons] at hl
      rw [show min (n + 2) z.length - n = 1 by omega]
      have : r = [] := List.length_eq_zero_iff.mp (by omega)
      rw [this]; rfl
  have el2 : tl ("<=" : Str) = [60, 61] := by decide +kernel
  refine decide_eq_decide.mpr ⟨fun e => ?_, fun e => ?_⟩
  · have e3 : cutS z (some ((n : Nat) : Int)) (some (((n : Nat) : Int) + 2)) = "<=" := V.str.inj e
    rw [e3, el2] at et
    cases r with
    | nil => cases et
    | cons d q =>
      injection et with e4 e5
      injection e5 with e6 e7
      exact ⟨e4.symm, by rw [← e6]; rfl⟩
  · obtain ⟨rfl, e⟩ := e
    cases r with
    | nil => cases e
    | cons d q =>
      have ed : d = 61 := by injection e
      subst ed
      exact congrArg V.str (TL.ext_tl (et.trans el2.symm))
theorem drop_take {p : Nat → Bool} : ∀ (l : List Nat), l.drop (l.takeWhile p).length = l.dropWhile p
  | [] => rfl
  | c :: r => by
    rw [List.takeWhile_cons, List.dropWhile_cons]
    split
    · exact drop_take r
    · rfl
theorem take_take {p : Nat → Bool} : ∀ (l : List Nat), l.take (l.takeWhile p).length = l.takeWhile p
  | [] => rfl
  | c :: r => by
    rw [List.takeWhile_cons]
    split
    · show c :: r.take _ = _
      rw [take_take r]
    · rfl
/-! ### token_end -/
def tend (n c : Nat) (r : List Nat) : Option Nat := if mk c = true then some (n + 1 + if c = 60 ∧ r.head? = some 61 then 1 else 0) else if al c = true then some (n + 1 + (r.takeWhile al).length) else none
def spTE (K : PySem.W.Frag) : Sp := fun vs H Q E => ∃ (z : Str) (n : Nat) (c : Nat) (r : List Nat), vs = [.str z, .int (n : Int)] ∧ z.length ≤ 1000000 ∧ (tl z).drop n = c :: r ∧
  (∀ e : Nat, tend n c r = some e → Q (.int (e : Int)) H) ∧ (tend n c r = none → Out0 K H E)
section
variable {P : Program} {w : World} {K : PySem.W.Frag} {mg : Str → Option Value} {base : Heap}
theorem out_bad {H : Hp} {E : XK} (h : Out0 K H E) : ∀ d, H d = none → E (.ref (BF_ K)) (some d) (upd H d (.xd [(("line" : Str), V.int 1)])) := fun d nd => h d _ (same_upd nd) upd_same
theorem ok_token_end (T : Tp w K mg) : Cl P w K mg base 3 "token_end" P_token_end (spTE K) := by
  refine cl_of T.f_token_end T.g_token_end sc_token_end (fun _ F => b_token_end F) (fun vs H Q E h => ?_) (fun cdv A outer s H vs Q E hr h => ?_)
  · obtain ⟨z, n, c, r, rfl, _⟩ := h
    rfl
  obtain ⟨z, n, c, r, rfl, hl, hd, ka, kb⟩ := h
  have k1 : mk c = true → Q (.int ((n : Int) + 1 + if c = 60 ∧ r.head? = some 61 then 1 else 0)) H := fun cm => by
    have q := ka _ (show tend n c r = some (n + 1 + if c = 60 ∧ r.head? = some 61 then 1 else 0) from if_pos cm)
    have e : ((n + 1 + (if c = 60 ∧ r.head? = some 61 then 1 else 0) : Nat) : Int) = (n : Int) + 1 + if c = 60 ∧ r.head? = some 61 then 1 else 0 := by split <;> omega
    rw [e] at q
    exact q
  have k2 : mk c = false → al c = true → Q (.int ((n + 1 + (r.takeWhile al).length : Nat) : Int)) H := fun cm ca => ka _ (by unfold tend; rw [if_neg (by rw [cm]; decide), if_pos ca])
  have k3 : mk c = false → al c = false → Out0 K H E := fun cm ca => kb (by unfold tend; rw [if_neg (by rw [cm]; decide), if_neg (by rw [ca]; decide)])
  refine ⟨_, (pss_cons (ps_if (pt_cmpR op_in_sign (pe_ix ix_str (pv 0) (pv 1) (fun _ _ => rfl)) (C8.pe_gc rfl T.c_MARKS) (by rfl)) (pss_one (ps_ret (pe_op op_add (pe_op op_add (pv 1) pe_int) (pe_callTy call_int1 rfl T.z_int (by decide +kernel) (pa_cons (pe_cmpR op_eq (pe_slice sl_str (pv 0) (po_some (pv 1)) (po_some (pe_op op_add (pv 1) pe_int))) pe_str (nomark _)) pa_nil))))) pss_nil)
      (pss_cons (ps_set (i := 2) sc_token_end.nd rfl (Or.inl rfl) (pv 1))
      (pss_cons (ps_while pOwn (PW.pt (pw_and (pt_cmpR op_lt (pv 2) (pe_callB call_len_str rfl T.z_len PySem.boot_len (pa_cons (pv 0) pa_nil)) (nomark _)) (pw_and1 (pt_cmpR op_in_sign (pe_ix ix_str (pv 0) (pv 2) (fun _ _ => rfl)) (C8.pe_gc rfl T.c_SIGNS) (by rfl))))) (pss_one (ps_aug (i := 2) sc_token_end.nd rfl (Or.inl rfl) pe_int ip_add)))
      (pss_cons (ps_if (pt_cmpR op_eq (pv 2) (pv 1) (nomark _)) (pss_one (ps_bad T hr (by omega) rfl (takes_of rfl rfl rfl rfl) pas0)) pss_nil)
      (pss_one (ps_ret (pv 2))))))), ?_⟩
  have hz := sl6 hl
  have el := len_tl z
  have ea := atI_str hd
  refine ⟨_, rfl, _, rfl, z, _, c, rfl, rfl, hz, ea, c, _, rfl, rfl, _, rfl, ?_⟩
  rw [mem_MARKS c]
  refine ite2 (fun cm => ?_) (fun cm => ?_)
  · refine ⟨_, rfl, _, _, rfl, rfl, _, rfl, _, rfl, _, rfl, _, rfl, _, _, rfl, rfl, _, rfl, z, rfl, hz, rfl, .inr ⟨_, rfl, ?_⟩⟩
    refine ⟨_, _, rfl, rfl, ?_⟩
    have q := k1 cm
    have e2 := cut2 hd
    show Q (.int _) H
    rw [e2]
    simpa using q
  have cm' : mk c = false := Bool.eq_false_iff.mpr cm
  refine ⟨_, rfl, ?_⟩
  refine ⟨fun m σ H' => ∃ e : Nat, σ = [some (.str z), some (.int (n : Int)), some (.int (e : Int))] ∧ H' = H ∧ n ≤ e ∧ e ≤ (tl z).length ∧ ((c :: r).take (e - n)).all al = true ∧ m = (tl z).length - e, ⟨_, n, rfl, rfl, Nat.le_refl _, by have := drop_lt hd; omega, by rw [Nat.sub_self]; rfl, rfl⟩, ?_⟩
  rintro m σ H' ⟨e, rfl, rfl, h1, h2, h3, rfl⟩
  refine ⟨_, rfl, _, rfl, _, rfl, hz, _, _, rfl, rfl, _, rfl, ?_⟩
  have fin : ((c :: r).take (e - n)).all al = true → (∀ d q, (tl z).drop e = d :: q → al d = false) → e = n + ((c :: r).takeWhile al).length := fun ha hb => by
    have ez : (tl z).drop e = (c :: r).drop (e - n) := by rw [← hd, List.drop_drop]; congr 1; omega
    have es : c :: r = (c :: r).take (e - n) ++ (tl z).drop e := by rw [ez, List.take_append_drop]
    obtain ⟨t1, _⟩ := take_run (r := (tl z).drop e) ha hb
    have hlen : ((c :: r).take (e - n)).length = e - n := by
      rw [List.length_take, ← hd, List.length_drop]; omega
    rw [es, t1, hlen]; omega
  -- behind the loop
  have after : (∀ d q, (tl z).drop e = d :: q → al d = false) → _ := fun hb => fin h3 hb
  refine ite2 (fun c1 => ?_) (fun c1 => ?_)
  · have c1' : (e : Int) < (z.length : Int) := of_decide_eq_true c1
    obtain ⟨d, q, eq⟩ : ∃ d q, (tl z).drop e = d :: q := ⟨_, _, List.drop_eq_getElem_cons (by omega)⟩
    refine ⟨_, rfl, _, rfl, z, _, d, rfl, rfl, hz, atI_str eq, d, _, rfl, rfl, _, rfl, ?_⟩
    rw [mem_REST d]
    refine ite2 (fun c2 => ?_) (fun c2 => ?_)
    · refine ⟨fun σ' H' => ∃ e' : Nat, e' = e + 1 ∧ σ' = [some (.str z), some (.int (n : Int)), some (.int (e' : Int))] ∧ H' = _ ∧ ((c :: r).take (e' - n)).all al = true, fun σ' H' ⟨e', he, hs, hh, ha⟩ => ⟨_, by omega, e', hs, hh, by omega, by omega, ha, rfl⟩, ?_⟩
      refine ⟨_, rfl, _, _, rfl, rfl, e + 1, rfl, ?_, rfl, ?_⟩
      · have : ((e : Int) + 1) = ((e + 1 : Nat) : Int) := by omega
        show ([some (.str z), some (.int (n : Int)), some (.int ((e : Int) + 1))] : L2.St) = _
        rw [this]
      · have ez : (c :: r).drop (e - n) = d :: q := by rw [← hd, List.drop_drop, ← eq]; congr 1; omega
        have e3 : e + 1 - n = (e - n) + 1 := by omega
        rw [e3, List.take_add_one, List.all_append, h3]
        have e4 : (c :: r)[e - n]? = some d := by
          have : ((c :: r).drop (e - n))[0]? = some d := by rw [ez]; rfl
          rw [List.getElem?_drop] at this
          exact this
        rw [e4]
        show (true && ([d] : List Nat).all al) = true
        simp [c2]
    · have hb : ∀ d' q', (tl z).drop e = d' :: q' → al d' = false := fun d' q' e' => by
        rw [eq] at e'
        injection e' with e5 e6
        rw [← e5]; exact Bool.eq_false_iff.mpr c2
      have e7 := after hb
      refine ⟨_, rfl, _, rfl, rfl, _, rfl, ?_⟩
      refine ite2 (fun c3 => ?_) (fun c3 => ?_)
      · have c3' : (e : Int) = (n : Int) := V.int.inj (of_decide_eq_true c3)
        have ha : al c = false := by
          cases ha : al c with
          | false => rfl
          | true =>
            rw [List.takeWhile_cons, if_pos ha, List.length_cons] at e7
            omega
        exact out_bad (k3 cm' ha)
      · have ha : al c = true := by
          cases ha : al c with
          | true => rfl
          | false =>
            rw [List.takeWhile_cons, if_neg (by rw [ha]; decide)] at e7
            refine absurd ?_ c3
            have : e = n := e7
            rw [this]
            exact decide_eq_true rfl
        refine ⟨_, rfl, ?_⟩
        rw [List.takeWhile_cons, if_pos ha, List.length_cons] at e7
        have q := k2 cm' ha
        rw [show n + 1 + (r.takeWhile al).length = e by omega] at q
        exact q
  · have c1' : ¬ (e : Int) < (z.length : Int) := of_decide_eq_false (Bool.eq_false_iff.mpr c1)
    have hb : ∀ d' q', (tl z).drop e = d' :: q' → al d' = false := fun d' q' e' => absurd (drop_lt e') (by omega)
    have e7 := after hb
    have := drop_lt hd
    refine iteF ?_
    refine ⟨_, rfl, _, rfl, rfl, _, rfl, ?_⟩
    have hne : decide (V.int (e : Int) = V.int (n : Int)) = false := decide_eq_false fun x => by have := V.int.inj x; omega
    rw [hne]
    refine iteF ?_
    have ha : al c = true := by
      cases ha : al c with
      | true => rfl
      | false =>
        rw [List.takeWhile_cons, if_neg (by rw [ha]; decide)] at e7
        simp at e7
        omega
    refine ⟨_, rfl, ?_⟩
    rw [List.takeWhile_cons, if_pos ha, List.length_cons] at e7
    have q := k2 cm' ha
    rw [show n + 1 + (r.takeWhile al).length = e by omega] at q
    exact q

theorem cut_n {z : Str} {n e : Nat} (h1 : n ≤ e) (h2 : e ≤ (tl z).length) : cutS z (some ((n : Nat) : Int)) (some ((e : Nat) : Int)) = ⟨(((tl z).drop n).take (e - n)).toArray⟩ := by
  have el := len_tl z
  unfold cutS
  rw [HT.sIx_nat, HT.sIx_nat, show min n z.length = n by omega, show min e z.length = e by omega]
/-! ### tokens -/
def spTok (K : PySem.W.Frag) : Sp := fun vs H Q E => ∃ z : Str, vs = [.str z] ∧ z.length ≤ 1000000 ∧ (∀ row, tk (tl z) = some row → ∀ p H', H p = none → Same H H' → H' p = some (.lst (row.map V.str)) → Q (.ref p) H') ∧ (tk (tl z) = none → Out0 K H E)
theorem ok_tokens (T : Tp w K mg) : Cl P w K mg base 4 "tokens" P_tokens (spTok K) := by
  have G_token_end := ok_token_end (P := P) (base := base) T
  refine cl_of T.f_tokens T.g_tokens sc_tokens (fun _ F => b_tokens F) (fun vs H Q E h => ?_) (fun cdv A outer s H vs Q E hr h => ?_)
  · obtain ⟨z, rfl, _⟩ := h
    rfl
  obtain ⟨z, rfl, hl, k1, k2⟩ := h
  refine ⟨_, (pss_cons (ps_set (i := 1) sc_tokens.nd rfl (Or.inl rfl) (pe_lst pa_nil))
      (pss_cons (ps_set (i := 2) sc_tokens.nd rfl (Or.inl rfl) pe_int)
      (pss_cons (ps_while pOwn (pt_cmpR op_lt (pv 2) (pe_callB call_len_str rfl T.z_len PySem.boot_len (pa_cons (pv 0) pa_nil)) (nomark _)) (pss_one (ps_if (pt_cmpR op_eq (pe_ix ix_str (pv 0) (pv 2) (fun _ _ => rfl)) pe_str (nomark _)) (pss_one (ps_aug (i := 2) sc_tokens.nd rfl (Or.inl rfl) pe_int ip_add)) (pss_cons (ps_set (i := 3) sc_tokens.nd rfl (Or.inl rfl) (pe_cl G_token_end hr (by omega) pasE (pa_cons (pv 0) (pa_cons (pv 2) pa_nil))))
      (pss_cons (ps_expr (pe_bm PySem.F.plainAttrs_list PySem.F.slot_list_append PySem.F.type_list_append mt_append (pv 1) (pa_cons (pe_slice sl_str (pv 0) (po_some (pv 2)) (po_some (pv 3))) pa_nil)))
      (pss_one (ps_set (i := 2) sc_tokens.nd rfl (Or.inl rfl) (pv 3))))))))
      (pss_one (ps_ret (pv 1)))))), ?_⟩
  have hz := sl6 hl
  have el := len_tl z
  refine ⟨by show 0 ≤ sizeLine; decide, fun l hlN => ?_⟩
  refine ⟨fun m σ H' => ∃ (at_ : Nat) (done : List Str) (x : Option V), σ = [some (.str z), some (.ref l), some (.int (at_ : Int)), x] ∧ Same H H' ∧ H' l = some (.lst (done.map V.str)) ∧ at_ ≤ (tl z).length ∧ done.length ≤ at_ ∧
    tk (tl z) = (tk ((tl z).drop at_)).map (done ++ ·) ∧ m = (tl z).length - at_, ⟨_, 0, [], none, rfl, same_upd hlN, upd_same, Nat.zero_le _, Nat.le_refl _, by simp, rfl⟩, ?_⟩
  rintro m σ H' ⟨n, done, x, rfl, hs, hd, h1, h2, ht, rfl⟩
  refine ⟨_, rfl, _, rfl, _, rfl, hz, _, _, rfl, rfl, _, rfl, ?_⟩
  refine ite2 (fun c1 => ?_) (fun c1 => ?_)
  · have c1' : (n : Int) < (z.length : Int) := of_decide_eq_true c1
    obtain ⟨c, r, er⟩ : ∃ c r, (tl z).drop n = c :: r := ⟨_, _, List.drop_eq_getElem_cons (by omega)⟩
    have hr1 := drop_next er
    rw [er, tk_cons] at ht
    have hlen : r.length + n + 1 = (tl z).length := by
      have := congrArg List.length er
      rw [List.length_drop, List.length_cons] at this
      omega
    refine ⟨fun σ' H2 => ∃ (n' : Nat) (done' : List Str) (x : Option V), n < n' ∧ n' ≤ (tl z).length ∧ σ' = [some (.str z), some (.ref l), some (.int (n' : Int)), x] ∧ Same H H2 ∧ H2 l = some (.lst (done'.map V.str)) ∧ done'.length ≤ n' ∧
      tk (tl z) = (tk ((tl z).drop n')).map (done' ++ ·), fun σ' H2 ⟨n', done', x, g1, g2, g3, g4, g5, g6, g7⟩ => ⟨_, by omega, n', done', x, g3, g4, g5, g2, g6, g7, rfl⟩, ?_⟩
    refine ⟨_, rfl, _, rfl, z, _, c, rfl, rfl, hz, atI_str er, rfl, _, rfl, ?_⟩
    have es : (V.str ⟨#[c]⟩ = V.str " ") ↔ c = 32 := by
      have e0 : (" " : Str) = ⟨#[32]⟩ := by decide +kernel
      rw [e0]
      constructor
      · intro e
        have := V.str.inj e
        injection this with e1
        have := congrArg Array.toList e1
        simpa using this
      · intro e; rw [e]
    refine ite2 (fun c2 => ?_) (fun c2 => ?_)
    · have c2' : c = 32 := es.mp (of_decide_eq_true c2)
      rw [if_pos c2'] at ht
      refine ⟨_, rfl, _, _, rfl, rfl, n + 1, done, x, by omega, by omega, ?_, hs, hd, by omega, by rw [hr1]; exact ht⟩
      show ([some (.str z), some (.ref l), some (.int ((n : Int) + 1)), x] : L2.St) = _
      rw [show ((n : Int) + 1) = ((n + 1 : Nat) : Int) by omega]
    · have c2' : c ≠ 32 := fun e => c2 (decide_eq_true (es.mpr e))
      rw [if_neg c2'] at ht
      refine ⟨_, rfl, _, rfl, z, n, c, r, rfl, hl, er, fun e he => ?_, fun he => ?_⟩
      · obtain ⟨g1, g2, g3⟩ : n < e ∧ e ≤ (tl z).length ∧ tk (tl z) = (tk ((tl z).drop e)).map ((done ++ [cutS z (some ((n : Nat) : Int)) (some ((e : Nat) : Int))]) ++ ·) := by
          unfold tend at he
          by_cases cm : mk c = true
          · rw [if_pos cm] at he ht
            have ee := Option.some.inj he
            by_cases c3 : c = 60 ∧ r.head? = some 61
            · rw [if_pos c3] at ee ht
              obtain ⟨q, eq⟩ : ∃ q, r = 61 :: q := by
                cases r with
                | nil => exact absurd c3.2 (by simp)
                | cons d q => exact ⟨q, by have := c3.2; simp at this; rw [this]⟩
              have hlq : q.length + 1 = r.length := by rw [eq]; rfl
              subst ee
              refine ⟨by omega, by omega, ?_⟩
              have h3 : (tl z).drop (n + 1 + 1) = q := drop_next (hr1.trans eq)
              rw [cut_n (by omega) (by omega), h3, er, ht, Option.map_map, show n + 1 + 1 - n = 2 by omega, eq]
              congr 1
              funext y
              simp [c3.1]
            · rw [if_neg c3] at ee ht
              subst ee
              refine ⟨by omega, by omega, ?_⟩
              rw [cut_n (by omega) (by omega), show n + 1 + 0 = n + 1 from rfl, hr1, er, ht, Option.map_map, show n + 1 - n = 1 by omega]
              congr 1
              funext y
              simp
          · rw [if_neg cm] at he ht
            by_cases ca : al c = true
            · rw [if_pos ca] at he ht
              have ee := Option.some.inj he
              have hw : (r.takeWhile al).length ≤ r.length := (List.takeWhile_prefix al).length_le
              subst ee
              refine ⟨by omega, by omega, ?_⟩
              have h3 : (tl z).drop (n + 1 + (r.takeWhile al).length) = r.dropWhile al := by rw [← List.drop_drop, hr1, drop_take]
              rw [cut_n (by omega) (by omega), h3, er, ht, Option.map_map, show n + 1 + (r.takeWhile al).length - n = (r.takeWhile al).length + 1 by omega, List.take_succ_cons, take_take]
              congr 1
              funext y
              simp
            · rw [if_neg ca] at he
              cases he
        refine ⟨_, rfl, .inl ⟨rfl, _, SqL.of hd⟩, _, rfl, _, rfl, _, rfl, _, rfl, _, rfl, z, rfl, hz, l, _, _, rfl, rfl, hd, ?_, _, rfl, ?_⟩
        · rw [List.length_map]
          exact Nat.lt_of_le_of_lt (show done.length ≤ 1000000 by omega) (by decide)
        · refine ⟨e, done ++ [cutS z (some ((n : Nat) : Int)) (some ((e : Nat) : Int))], _, g1, g2, rfl, fun b o q => ?_, ?_, ?_, g3⟩
          · rw [upd_ne (ne_of_none q hlN)]; exact hs b o q
          · rw [upd_same, List.map_append]; rfl
          · rw [List.length_append, List.length_singleton]; omega
      · unfold tend at he
        by_cases cm : mk c = true
        · rw [if_pos cm] at he; cases he
        · rw [if_neg cm] at he ht
          by_cases ca : al c = true
          · rw [if_pos ca] at he; cases he
          · rw [if_neg ca] at ht
            exact fun d H2 s2 hd2 => k2 ht d H2 (hs.trans s2) hd2
  · have c1' : ¬ (n : Int) < (z.length : Int) := of_decide_eq_false (Bool.eq_false_iff.mpr c1)
    have e0 : (tl z).drop n = [] := List.drop_eq_nil_of_le (by omega)
    rw [e0] at ht
    refine ⟨_, rfl, ?_⟩
    exact k1 done (by rw [ht]; show some (done ++ []) = _; rw [List.append_nil]) l H' hlN hs hd
end
end KT

namespace KT
open PySem PySem.Spec
open PyProof.Rows L2 KM
/-! ### the parser as an object -/
def flds (r : Addr) (n lv : Nat) : List (Str × V) := [(("row" : Str), V.ref r), (("cases" : Str), V.bl false), (("flags" : Str), V.bl true), (("at" : Str), V.int (n : Int)), (("level" : Str), V.int (lv : Int))]
theorem flds_put {r : Addr} {n lv : Nat} {fs : List (Str × V)} {f : Str} {v : V} (h : putF f v (flds r n lv) = fs) (g : Str) : fs.lookup g = if g = f then some v else (flds r n lv).lookup g := by rw [← h, lookup_putF]
theorem sne {a b : Str} (h : decide (a = b) = false) : ¬ a = b := of_decide_eq_false h
theorem flds_row (r : Addr) (n lv : Nat) : (flds r n lv).lookup ("row" : Str) = some (.ref r) := by
  unfold flds; rw [List.lookup_cons, beq_self_eq_true]
theorem lookup_no {a b : Str} {v : V} {l : List (Str × V)} (h : decide (a = b) = false) : ((b, v) :: l).lookup a = l.lookup a := by
  rw [List.lookup_cons, beq_eq_false_iff_ne.mpr (sne h)]
theorem flds_cases (r : Addr) (n lv : Nat) : (flds r n lv).lookup ("cases" : Str) = some (.bl false) := by
  unfold flds; rw [lookup_no (by decide +kernel), List.lookup_cons, beq_self_eq_true]
theorem flds_flags (r : Addr) (n lv : Nat) : (flds r n lv).lookup ("flags" : Str) = some (.bl true) := by
  unfold flds; rw [lookup_no (by decide +kernel), lookup_no (by decide +kernel), List.lookup_cons, beq_self_eq_true]
theorem flds_at (r : Addr) (n lv : Nat) : (flds r n lv).lookup ("at" : Str) = some (.int (n : Int)) := by
  unfold flds; rw [lookup_no (by decide +kernel), lookup_no (by decide +kernel), lookup_no (by decide +kernel), List.lookup_cons, beq_self_eq_true]
theorem flds_level (r : Addr) (n lv : Nat) : (flds r n lv).lookup ("level" : Str) = some (.int (lv : Int)) := by
  unfold flds; rw [lookup_no (by decide +kernel), lookup_no (by decide +kernel), lookup_no (by decide +kernel), lookup_no (by decide +kernel), List.lookup_cons, beq_self_eq_true]
theorem flds_no (r : Addr) (n lv : Nat) {m : Str} (h : (["row", "cases", "flags", "at", "level"] : List Str).contains m = false) : (flds r n lv).lookup m = none := by
  have g : ∀ b ∈ (["row", "cases", "flags", "at", "level"] : List Str), decide (m = b) = false := fun b hb => decide_eq_false fun e => by
    rw [List.contains_eq_mem] at h
    exact of_decide_eq_false h (e ▸ hb)
  unfold flds
  rw [lookup_no (g _ (by simp)), lookup_no (g _ (by simp)), lookup_no (g _ (by simp)), lookup_no (g _ (by simp)), lookup_no (g _ (by simp))]
  rfl
theorem put_no {a b : Str} {v x : V} {l : List (Str × V)} (h : decide (b = a) = false) : putF a v ((b, x) :: l) = (b, x) :: putF a v l := if_neg (sne h)
theorem put_at (r : Addr) (n lv m : Nat) : putF ("at" : Str) (.int (m : Int)) (flds r n lv) = flds r m lv := by
  unfold flds
  rw [put_no (by decide +kernel), put_no (by decide +kernel), put_no (by decide +kernel)]
  exact congrArg _ (congrArg _ (congrArg _ (if_pos rfl)))
theorem put_level (r : Addr) (n lv m : Nat) : putF ("level" : Str) (.int (m : Int)) (flds r n lv) = flds r n m := by
  unfold flds
  rw [put_no (by decide +kernel), put_no (by decide +kernel), put_no (by decide +kernel), put_no (by decide +kernel)]
  exact congrArg _ (congrArg _ (congrArg _ (congrArg _ (if_pos rfl))))
/-- the parser at p: what is left of its row, its level -/
def At (K : PySem.W.Frag) (H : Hp) (p : Addr) (ts : List Str) (lv : Nat) : Prop := ∃ (dx r : Addr) (row : List Str) (n : Nat), H p = some (.ins (PC_ K) dx (flds r n lv)) ∧ H r = some (.lst (row.map V.str)) ∧ ts = row.drop n ∧
  row.length ≤ 1000000 ∧ ∀ t ∈ row, t.length ≤ 1000000
theorem At.but {K : PySem.W.Frag} {H H' : Hp} {p : Addr} {ts : List Str} {lv : Nat} (h : At K H p ts lv) (e : Same H H') : At K H' p ts lv := by
  obtain ⟨dx, r, row, n, h1, h2, h3, h4, h5⟩ := h
  exact ⟨dx, r, row, n, e _ _ h1, e _ _ h2, h3, h4, h5⟩
theorem At.safe {K : PySem.W.Frag} {H : Hp} {p : Addr} {ts : List Str} {lv : Nat} (h : At K H p ts lv) : Safe p H := by
  obtain ⟨dx, r, row, n, h1, h2, h3, h4, h5⟩ := h
  intro o ho
  rw [h1] at ho
  cases ho
  exact ⟨fun _ e => HO.noConfusion e, fun _ e => HO.noConfusion e, fun _ _ e => HO.noConfusion e⟩
theorem At.len {K : PySem.W.Frag} {H : Hp} {p : Addr} {ts : List Str} {lv : Nat} (h : At K H p ts lv) : ∀ t ∈ ts, t.length ≤ 1000000 := by
  obtain ⟨dx, r, row, n, h1, h2, h3, h4, h5⟩ := h
  intro t ht
  rw [h3] at ht
  exact h5 t (List.mem_of_mem_drop ht)
theorem Out.of {K : PySem.W.Frag} {p : Addr} {H H1 : Hp} {E : XK} (h : Out K p H E) (b : But p H H1) : Out K p H1 E := fun d H' e => h d H' (b.trans e)
theorem Out.bad {K : PySem.W.Frag} {p : Addr} {H : Hp} {E : XK} (h : Out K p H E) : ∀ d, H d = none → E (.ref (BF_ K)) (some d) (upd H d (.xd [(("line" : Str), V.int 1)])) := fun d nd => h d _ (Same.but (same_upd nd)) upd_same
abbrev hdS (ts : List Str) : Str := ts.headD ""
theorem hdS_ne {w : Str} {ts : List Str} (hw : decide (w = "") = false) (h : hdS ts = w) : ∃ r, ts = w :: r := by
  cases ts with
  | nil => exact absurd h.symm (sne hw)
  | cons s r => exact ⟨r, by rw [show s = w from h]⟩
/-! ### promises -/
def spPeek (K : PySem.W.Frag) : Sp := fun vs H Q _ => ∃ (p : Addr) (ts : List Str) (lv : Nat), vs = [.ref p] ∧ At K H p ts lv ∧ Q (.str (hdS ts)) H
def spTake (K : PySem.W.Frag) : Sp := fun vs H Q _ => ∃ (p : Addr) (ts : List Str) (lv : Nat), vs = [.ref p] ∧ At K H p ts lv ∧ ∀ H', But p H H' → At K H' p ts.tail lv → Q (.str (hdS ts)) H'
def spNeed (K : PySem.W.Frag) : Sp := fun vs H Q E => ∃ (p : Addr) (ts : List Str) (lv : Nat) (w : Str), vs = [.ref p, .str w] ∧ At K H p ts lv ∧ decide (w = "") = false ∧
  (∀ r, ts = w :: r → ∀ H', But p H H' → At K H' p r lv → Q .non H') ∧ ((∀ r, ts ≠ w :: r) → Out K p H E)
def spBegin (K : PySem.W.Frag) : Sp := fun vs H Q E => ∃ (p : Addr) (ts : List Str) (lv : Nat) (w : Str), vs = [.ref p, .str w] ∧ At K H p ts lv ∧ decide (w = "") = false ∧
  (∀ r, ts = w :: r → lv < 100 → ∀ H', But p H H' → At K H' p r (lv + 1) → Q .non H') ∧ ((∀ r, ts = w :: r → 100 ≤ lv) → Out K p H E)
def spClose (K : PySem.W.Frag) : Sp := fun vs H Q E => ∃ (p : Addr) (ts : List Str) (lv : Nat) (w : Str), vs = [.ref p, .str w] ∧ At K H p ts (lv + 1) ∧ decide (w = "") = false ∧
  (∀ r, ts = w :: r → ∀ H', But p H H' → At K H' p r lv → Q .non H') ∧ ((∀ r, ts ≠ w :: r) → Out K p H E)
def spNameM (K : PySem.W.Frag) : Sp := fun vs H Q E => ∃ (p : Addr) (ts : List Str) (lv : Nat), vs = [.ref p] ∧ At K H p ts lv ∧
  (∀ s r, ts = s :: r → isName s = true → ∀ H', But p H H' → At K H' p r lv → Q (.str s) H') ∧ ((∀ s r, ts = s :: r → isName s = false) → Out K p H E)
def spDigits (K : PySem.W.Frag) : Sp := fun vs H Q E => ∃ (p : Addr) (ts : List Str) (lv : Nat), vs = [.ref p] ∧ At K H p ts lv ∧
  (∀ s r n, ts = s :: r → digOk s = some n → ∀ H', But p H H' → At K H' p r lv → Q (.int (n : Int)) H') ∧ ((∀ s r, ts = s :: r → digOk s = none) → Out K p H E)
/-- a number with its sign -/
def numR (ts : List Str) : Option (Int × List Str) := match ts with
  | s :: r => if s = "-" then (match r with
      | d :: q => (digOk d).map fun (n : Nat) => (-(n : Int), q)
      | [] => none) else (digOk s).map fun (n : Nat) => ((n : Int), r)
  | [] => none
theorem nums_R (ts : List Str) (k : Int → List Str → R) : nums ts k = match numR ts with
    | some (n, r) => k n r
    | none => .bad := by
  cases ts with
  | nil => rfl
  | cons s r =>
    unfold nums numR
    by_cases h : s = "-"
    · simp only [if_pos h]
      cases r with
      | nil => rfl
      | cons d q =>
        unfold digs
        cases e : digOk d <;> simp [e]
    · simp only [if_neg h]
      unfold digs
      cases e : digOk s <;> simp [e]
def spNumber (K : PySem.W.Frag) : Sp := fun vs H Q E => ∃ (p : Addr) (ts : List Str) (lv : Nat), vs = [.ref p] ∧ At K H p ts lv ∧
  (∀ n r, numR ts = some (n, r) → ∀ H', But p H H' → At K H' p r lv → Q (.int n) H') ∧ (numR ts = none → Out K p H E)
def spEnd (K : PySem.W.Frag) : Sp := fun vs H Q E => ∃ (p : Addr) (ts : List Str) (lv : Nat), vs = [.ref p] ∧ At K H p ts lv ∧ (∀ t ∈ ts, decide (t = "") = false) ∧
  (ts = [] → Q .non H) ∧ (ts ≠ [] → Out K p H E)
section
variable {P : Program} {w : World} {K : PySem.W.Frag} {mg : Str → Option Value} {base : Heap}
theorem ok_peek (T : Tp w K mg) : Ml P w K mg base 1 "peek" P_Parser_peek (spPeek K) := by
  refine ml_of T.f_Parser_peek T.cl T.m_peek sc_Parser_peek (fun _ F => b_Parser_peek F) (fun vs H Q E h => ?_) (fun cdv A outer s H vs Q E hr h => ?_)
  · obtain ⟨p, ts, lv, rfl, _⟩ := h
    rfl
  obtain ⟨p, ts, lv, rfl, ⟨dx, r, row, n, h1, h2, h3, h4, h5⟩, k⟩ := h
  refine ⟨_, (pss_cons (ps_if (pt_cmpR op_lt (pe_fld (pv 0) rfl) (pe_callB call_len_seq rfl T.z_len PySem.boot_len (pa_cons (pe_fld (pv 0) rfl) pa_nil)) (nomark _)) (pss_one (ps_ret (pe_ix ix_list (pe_fld (pv 0) rfl) (pe_fld (pv 0) rfl) (fun _ _ => rfl)))) pss_nil)
      (pss_one (ps_ret pe_str))), ?_⟩
  refine ⟨_, rfl, p, _, dx, _, _, rfl, h1, T.cl, T.na_at, flds_at _ _ _, _, rfl, p, _, dx, _, _, rfl, h1, T.cl, T.na_row, flds_row _ _ _, ?_⟩
  refine ⟨r, _, rfl, .inl (SqL.of h2), ?_⟩
  refine ⟨_, _, rfl, rfl, _, rfl, ?_⟩
  rw [List.length_map]
  refine ite2 (fun c => ?_) (fun c => ?_)
  · have c' : (n : Int) < (row.length : Int) := of_decide_eq_true c
    have hn : n < row.length := by omega
    refine ⟨_, rfl, p, _, dx, _, _, rfl, h1, T.cl, T.na_row, flds_row _ _ _, _, rfl, p, _, dx, _, _, rfl, h1, T.cl, T.na_at, flds_at _ _ _, ?_⟩
    have e : ts = row[n] :: row.drop (n + 1) := by rw [h3]; exact List.drop_eq_getElem_cons hn
    refine ⟨r, _, n, .str row[n], rfl, rfl, SqL.of h2, atI_nat (by rw [List.getElem?_map, List.getElem?_eq_getElem hn]; rfl), ?_⟩
    rw [e] at k
    exact k
  · have c' : ¬ (n : Int) < (row.length : Int) := of_decide_eq_false (Bool.eq_false_iff.mpr c)
    have e : ts = [] := by rw [h3]; exact List.drop_eq_nil_of_le (by omega)
    rw [e] at k
    exact k
theorem ok_take (T : Tp w K mg) : Ml P w K mg base 2 "take" P_Parser_take (spTake K) := by
  have G_peek := ok_peek (P := P) (base := base) T
  refine ml_of T.f_Parser_take T.cl T.m_take sc_Parser_take (fun _ F => b_Parser_take F) (fun vs H Q E h => ?_) (fun cdv A outer s H vs Q E hr h => ?_)
  · obtain ⟨p, ts, lv, rfl, _⟩ := h
    rfl
  obtain ⟨p, ts, lv, rfl, ha, k⟩ := h
  obtain ⟨dx, r, row, n, h1, h2, h3, h4, h5⟩ := ha
  refine ⟨_, (pss_cons (ps_set (i := 1) sc_Parser_take.nd rfl (Or.inl rfl) (pe_ml0 G_peek hr (by omega) pasE (pv 0)))
      (pss_cons (ps_fldaug (pv 0) pe_int in_add)
      (pss_one (ps_ret (pv 1))))), ?_⟩
  refine ⟨_, rfl, p, dx, _, rfl, h1, flds_no _ _ _ (by decide +kernel), ?_⟩
  refine ⟨p, ts, lv, rfl, ⟨dx, r, row, n, h1, h2, h3, h4, h5⟩, ?_⟩
  refine ⟨_, rfl, p, _, dx, _, _, rfl, h1, T.cl, T.na_at, flds_at _ _ _, _, _, rfl, rfl, dx, _, h1, by show 5 < 1000; decide, ?_⟩
  refine ⟨_, rfl, ?_⟩
  have e : ((n : Int) + 1) = ((n + 1 : Nat) : Int) := by omega
  have hp : ∀ b o, H b = some o → b ≠ p → (upd H p (.ins (PC_ K) dx (putF "at" (.int ((n : Int) + 1)) (flds r n lv)))) b = some o := fun b o q ne => by rw [upd_ne ne]; exact q
  refine k _ hp ⟨dx, r, row, n + 1, ?_, hp _ _ h2 fun z => ?_, ?_, h4, h5⟩
  · rw [upd_same, e, put_at]
  · rw [z, h1] at h2; exact HO.noConfusion (Option.some.inj h2)
  · rw [h3, List.tail_drop]
theorem str_ne {a b : Str} (h : (!decide (V.str a = V.str b)) = true) : a ≠ b := fun e => by rw [e] at h; simp at h
theorem str_eq {a b : Str} (h : ¬ (!decide (V.str a = V.str b)) = true) : a = b := by
  have : decide (V.str a = V.str b) = true := by simpa using h
  exact V.str.inj (of_decide_eq_true this)
theorem ok_need (T : Tp w K mg) : Ml P w K mg base 3 "need" P_Parser_need (spNeed K) := by
  have G_take := ok_take (P := P) (base := base) T
  refine ml_of T.f_Parser_need T.cl T.m_need sc_Parser_need (fun _ F => b_Parser_need F) (fun vs H Q E h => ?_) (fun cdv A outer s H vs Q E hr h => ?_)
  · obtain ⟨p, ts, lv, w, rfl, _⟩ := h
    rfl
  obtain ⟨p, ts, lv, w, rfl, ha, hw, k1, k2⟩ := h
  obtain ⟨dx, r, row, n, h1, _⟩ := id ha
  refine ⟨_, (pss_one (ps_if (pt_cmpR op_ne (pe_ml0 G_take hr (by omega) pasE (pv 0)) (pv 1) (nomark _)) (pss_one (ps_bad T hr (by omega) rfl (takes_of rfl rfl rfl rfl) pas0)) pss_nil)), ?_⟩
  refine ⟨_, rfl, p, dx, _, rfl, h1, flds_no _ _ _ (by decide +kernel), ?_⟩
  refine ⟨p, ts, lv, rfl, ha, fun H' b' a' => ?_⟩
  refine ⟨_, rfl, rfl, _, rfl, ?_⟩
  refine ite2 (fun c => ?_) (fun c => ?_)
  · exact ((k2 fun r e => str_ne c (by rw [e]; rfl)).of b').bad
  · obtain ⟨r, e⟩ := hdS_ne hw (str_eq c)
    refine k1 r e H' b' ?_
    rw [e] at a'
    exact a'
theorem ok_begin (T : Tp w K mg) : Ml P w K mg base 4 "begin" P_Parser_begin (spBegin K) := by
  have G_need := ok_need (P := P) (base := base) T
  refine ml_of T.f_Parser_begin T.cl T.m_begin sc_Parser_begin (fun _ F => b_Parser_begin F) (fun vs H Q E h => ?_) (fun cdv A outer s H vs Q E hr h => ?_)
  · obtain ⟨p, ts, lv, w, rfl, _⟩ := h
    rfl
  obtain ⟨p, ts, lv, w, rfl, ha, hw, k1, k2⟩ := h
  obtain ⟨dx, r, row, n, h1, _⟩ := id ha
  refine ⟨_, (pss_cons (ps_expr (pe_ml G_need hr (by omega) pasE (pv 0) (pa_cons (pv 1) pa_nil)))
      (pss_cons (ps_fldaug (pv 0) pe_int in_add)
      (pss_one (ps_if (pt_cmpR op_gt (pe_fld (pv 0) rfl) (C8.pe_gc rfl T.c_MAX_LEVELS) (nomark _)) (pss_one (ps_bad T hr (by omega) rfl (takes_of rfl rfl rfl rfl) pas0)) pss_nil)))), ?_⟩
  refine ⟨_, rfl, p, dx, _, rfl, h1, flds_no _ _ _ (by decide +kernel), _, rfl, ?_⟩
  refine ⟨p, ts, lv, w, rfl, ha, hw, fun q e H' b' a' => ?_, fun hn => k2 fun r e => absurd e (hn r)⟩
  obtain ⟨dx, r, row, n, h1, h2, h3, h4, h5⟩ := a'
  refine ⟨_, rfl, p, _, dx, _, _, rfl, h1, T.cl, T.na_level, flds_level _ _ _, _, _, rfl, rfl, dx, _, h1, by show 5 < 1000; decide, ?_⟩
  have e1 : ((lv : Int) + 1) = ((lv + 1 : Nat) : Int) := by omega
  have hp : ∀ b o, H' b = some o → b ≠ p → (upd H' p (.ins (PC_ K) dx (flds r n (lv + 1)))) b = some o := fun b o q ne => by rw [upd_ne ne]; exact q
  have bp : But p H' (upd H' p (.ins (PC_ K) dx (flds r n (lv + 1)))) := hp
  have e2 : putF "level" (V.int ((lv : Int) + 1)) (flds r n lv) = flds r n (lv + 1) := by rw [e1]; exact put_level _ _ _ _
  rw [e2]
  refine ⟨_, rfl, p, _, dx, _, _, rfl, upd_same, T.cl, T.na_level, flds_level _ _ _, _, _, rfl, rfl, _, rfl, ?_⟩
  refine ite2 (fun c => ?_) (fun c => ?_)
  · have c' : (100 : Int) < ((lv + 1 : Nat) : Int) := of_decide_eq_true c
    exact ((k2 fun _ _ => by omega).of (b'.trans bp)).bad
  · have c' : ¬ (100 : Int) < ((lv + 1 : Nat) : Int) := of_decide_eq_false (Bool.eq_false_iff.mpr c)
    refine k1 q e (by omega) _ (b'.trans bp) ⟨dx, r, row, n, upd_same, hp _ _ h2 fun z => ?_, h3, h4, h5⟩
    rw [z, h1] at h2; exact HO.noConfusion (Option.some.inj h2)
theorem ok_close (T : Tp w K mg) : Ml P w K mg base 4 "close" P_Parser_close (spClose K) := by
  have G_need := ok_need (P := P) (base := base) T
  refine ml_of T.f_Parser_close T.cl T.m_close sc_Parser_close (fun _ F => b_Parser_close F) (fun vs H Q E h => ?_) (fun cdv A outer s H vs Q E hr h => ?_)
  · obtain ⟨p, ts, lv, w, rfl, _⟩ := h
    rfl
  obtain ⟨p, ts, lv, w, rfl, ha, hw, k1, k2⟩ := h
  obtain ⟨dx, r, row, n, h1, _⟩ := id ha
  refine ⟨_, (pss_cons (ps_expr (pe_ml G_need hr (by omega) pasE (pv 0) (pa_cons (pv 1) pa_nil)))
      (pss_one (ps_fldaug (pv 0) pe_int in_sub))), ?_⟩
  refine ⟨_, rfl, p, dx, _, rfl, h1, flds_no _ _ _ (by decide +kernel), _, rfl, ?_⟩
  refine ⟨p, ts, lv + 1, w, rfl, ha, hw, fun q e H' b' a' => ?_, fun hn => k2 hn⟩
  obtain ⟨dx, r, row, n, h1, h2, h3, h4, h5⟩ := a'
  refine ⟨_, rfl, p, _, dx, _, _, rfl, h1, T.cl, T.na_level, flds_level _ _ _, _, _, rfl, rfl, dx, _, h1, by show 5 < 1000; decide, ?_⟩
  have e1 : (((lv + 1 : Nat) : Int) - 1) = ((lv : Nat) : Int) := by omega
  have e2 : putF "level" (V.int (((lv + 1 : Nat) : Int) - 1)) (flds r n (lv + 1)) = flds r n lv := by rw [e1]; exact put_level _ _ _ _
  rw [e2]
  have hp : ∀ b o, H' b = some o → b ≠ p → (upd H' p (.ins (PC_ K) dx (flds r n lv))) b = some o := fun b o q ne => by rw [upd_ne ne]; exact q
  refine k1 q e _ (b'.trans hp) ⟨dx, r, row, n, upd_same, hp _ _ h2 fun z => ?_, h3, h4, h5⟩
  rw [z, h1] at h2; exact HO.noConfusion (Option.some.inj h2)
theorem len_hdS {ts : List Str} (h : ∀ t ∈ ts, t.length ≤ 1000000) : (hdS ts).length ≤ 1000000 := by
  cases ts with
  | nil => show ("" : Str).length ≤ _; decide +kernel
  | cons s r => exact h s (by simp)
theorem ok_name (T : Tp w K mg) : Ml P w K mg base 3 "name" P_Parser_name (spNameM K) := by
  have G_take := ok_take (P := P) (base := base) T
  have G_is_name := ok_is_name (P := P) (base := base) T
  refine ml_of T.f_Parser_name T.cl T.m_name sc_Parser_name (fun _ F => b_Parser_name F) (fun vs H Q E h => ?_) (fun cdv A outer s H vs Q E hr h => ?_)
  · obtain ⟨p, ts, lv, rfl, _⟩ := h
    rfl
  obtain ⟨p, ts, lv, rfl, ha, k1, k2⟩ := h
  obtain ⟨dx, r, row, n, h1, _⟩ := id ha
  refine ⟨_, (pss_cons (ps_set (i := 1) sc_Parser_name.nd rfl (Or.inl rfl) (pe_ml0 G_take hr (by omega) pasE (pv 0)))
      (pss_cons (ps_if (pt_not (pt_val (pe_cl G_is_name hr (by omega) pasE (pa_cons (pv 1) pa_nil)))) (pss_one (ps_bad T hr (by omega) rfl (takes_of rfl rfl rfl rfl) pas0)) pss_nil)
      (pss_one (ps_ret (pv 1))))), ?_⟩
  refine ⟨_, rfl, p, dx, _, rfl, h1, flds_no _ _ _ (by decide +kernel), ?_⟩
  refine ⟨p, ts, lv, rfl, ha, fun H' b' a' => ?_⟩
  refine ⟨_, rfl, _, rfl, len_hdS ha.len, fun H2 s2 => ?_⟩
  refine ⟨_, rfl, ?_⟩
  have e0 : isName "" = false := by decide +kernel
  refine ite2 (fun c => ?_) (fun c => ?_)
  · have c' : isName (hdS ts) = false := by simpa using c
    exact ((k2 fun s r e => by rw [e] at c'; exact c').of (b'.trans (Same.but s2))).bad
  · have c' : isName (hdS ts) = true := by simpa using c
    cases ets : ts with
    | nil => rw [ets] at c'; rw [show hdS [] = ("" : Str) from rfl, e0] at c'; cases c'
    | cons s r =>
      refine ⟨_, rfl, ?_⟩
      rw [ets] at c' a'
      exact k1 s r ets c' H2 (b'.trans (Same.but s2)) (a'.but s2)
theorem tl_nil {z : Str} : z = "" ↔ (tl z).length = 0 := by
  have e0 : tl ("" : Str) = [] := by decide +kernel
  constructor
  · intro e; rw [e, e0]; rfl
  · intro e
    exact TL.ext_tl ((List.length_eq_zero_iff.mp e).trans e0.symm)
theorem ok_digits (T : Tp w K mg) : Ml P w K mg base 3 "digits" P_Parser_digits (spDigits K) := by
  have G_take := ok_take (P := P) (base := base) T
  refine ml_of T.f_Parser_digits T.cl T.m_digits sc_Parser_digits (fun _ F => b_Parser_digits F) (fun vs H Q E h => ?_) (fun cdv A outer s H vs Q E hr h => ?_)
  · obtain ⟨p, ts, lv, rfl, _⟩ := h
    rfl
  obtain ⟨p, ts, lv, rfl, ha, k1, k2⟩ := h
  obtain ⟨dx, r, row, n, h1, _⟩ := id ha
  refine ⟨_, (pss_cons (ps_set (i := 1) sc_Parser_digits.nd rfl (Or.inl rfl) (pe_ml0 G_take hr (by omega) pasE (pv 0)))
      (pss_cons (ps_if (PW.pt (pw_or (pt_cmpR op_eq (pv 1) pe_str (nomark _)) (pw_or (pt_cmpR op_gt (pe_callB call_len_str rfl T.z_len PySem.boot_len (pa_cons (pv 1) pa_nil)) (C8.pe_gc rfl T.c_MAX_DIGITS) (nomark _)) (pw_or1 (pt_not (pt_val (pe_callB (cr_all rfl) rfl T.z_all (by decide +kernel) (pa_cons (pe_lc (own := [("sign", 2)]) (g := gName 2) rfl sc_Parser_digits.nd (pi_str (pv 1)) (blkOk_by (own := [("sign", 2)]) (N := N_Parser_digits) (sc := defScope s_Parser_digits) (by decide +kernel)) (fun _ _ _ _ _ => (pg_name (i := 2) sc_Parser_digits.nd rfl (Or.inl rfl))) (fun _ _ _ _ _ => pts_nil) (fun _ _ _ _ _ => (pe_cmpR op_in_sign (pv 2) (C8.pe_gc rfl T.c_DIGITS) (by rfl)))) pa_nil)))))))) (pss_one (ps_bad T hr (by omega) rfl (takes_of rfl rfl rfl rfl) pas0)) pss_nil)
      (pss_cons (ps_if (PW.pt (pw_or (PW.pt (pw_and (pt_cmpR op_gt (pe_callB call_len_str rfl T.z_len PySem.boot_len (pa_cons (pv 1) pa_nil)) pe_int (nomark _)) (pw_and1 (pt_cmpR op_eq (pe_ix ix_str (pv 1) pe_int (fun _ _ => rfl)) pe_str (nomark _))))) (pw_or1 (pt_cmpR op_gt (pe_callTy call_int_str rfl T.z_int (by decide +kernel) (pa_cons (pv 1) pa_nil)) (C8.pe_gc rfl T.c_MAX_NUMBER) (nomark _))))) (pss_one (ps_bad T hr (by omega) rfl (takes_of rfl rfl rfl rfl) pas0)) pss_nil)
      (pss_one (ps_ret (pe_callTy call_int_str rfl T.z_int (by decide +kernel) (pa_cons (pv 1) pa_nil))))))), ?_⟩
  refine ⟨_, rfl, p, dx, _, rfl, h1, flds_no _ _ _ (by decide +kernel), ?_⟩
  refine ⟨p, ts, lv, rfl, ha, fun H' b' a' => ?_⟩
  have hlen := len_hdS ha.len
  have e0 : digOk "" = none := by decide +kernel
  have bad : digOk (hdS ts) = none → ∀ H2, Same H' H2 → ∀ d, H2 d = none → E (.ref (BF_ K)) (some d) (upd H2 d (.xd [(("line" : Str), V.int 1)])) := fun e H2 s2 =>
    ((k2 fun s r es => by rw [es] at e; exact e).of (b'.trans (Same.but s2))).bad
  have good : ∀ m, digOk (hdS ts) = some m → ∀ H2, Same H' H2 → Q (.int (m : Int)) H2 := fun m e H2 s2 => by
    cases ets : ts with
    | nil => rw [ets] at e; rw [show hdS [] = ("" : Str) from rfl, e0] at e; cases e
    | cons s r =>
      rw [ets] at e a'
      exact k1 s r m ets e H2 (b'.trans (Same.but s2)) (a'.but s2)
  generalize hz : hdS ts = z at *
  have el := len_tl z
  have hz6 := sl6 hlen
  refine ⟨_, rfl, rfl, _, rfl, ?_⟩
  refine ite2 (fun c => ?_) (fun c => ?_)
  · refine iteT (bad ?_ _ (Same.refl _))
    rw [V.str.inj (of_decide_eq_true c)]; exact e0
  have c1 : 1 ≤ (tl z).length := by
    have : ¬ z = "" := fun e => c (decide_eq_true (congrArg V.str e))
    have := mt tl_nil.mpr this
    omega
  refine ⟨_, rfl, _, rfl, hz6, _, _, rfl, rfl, _, rfl, ?_⟩
  refine ite2 (fun c => ?_) (fun c => ?_)
  · have c' : (7 : Int) < (z.length : Int) := of_decide_eq_true c
    refine iteT (bad ?_ _ (Same.refl _))
    unfold digOk
    rw [decide_eq_false (p := (tl z).length ≤ 7) (by omega), Bool.false_and, Bool.and_false]; rfl
  have c2 : (tl z).length ≤ 7 := by
    have c' : ¬ (7 : Int) < (z.length : Int) := of_decide_eq_false (Bool.eq_false_iff.mpr c)
    omega
  refine call1 (tlc_text (p := dg) rfl rfl hlen (fun c H' Q' q => ?_) (fun D H2 nD hs hd => ?_))
  · refine ⟨_, rfl, c, _, rfl, rfl, ?_⟩
    rw [mem_DIGITS c]; exact q
  refine ⟨D, _, rfl, SqL.of hd, _, rfl, ?_⟩
  rw [all_bl]
  refine ite2 (fun c => ?_) (fun c => ?_)
  · have c' : (tl z).all dg = false := by simpa using c
    refine bad ?_ _ hs
    unfold digOk
    rw [c', Bool.false_and, Bool.and_false, Bool.and_false]; rfl
  have c3 : (tl z).all dg = true := by simpa using c
  have hint : PySem.intText? z = some ((dval (tl z) : Nat) : Int) := PySem.intText_digits (of_all_dg c3) (fun e => by rw [show tl z = [] from e] at c1; exact absurd c1 (by decide)) (by omega)
  have dz : digOk z = if ((!(decide (2 ≤ (tl z).length) && decide ((tl z).head? = some 48)) && decide (dval (tl z) ≤ 1000000))) = true then some (dval (tl z)) else none := by
    unfold digOk
    rw [decide_eq_true c1, decide_eq_true c2, c3, Bool.true_and, Bool.true_and, Bool.true_and]
  cases ez : tl z with
  | nil => rw [ez] at c1; exact absurd c1 (by decide)
  | cons a l =>
  have ea : atI z.cps.toList (0 : Int) = some a := by
    have : atI (tl z) ((0 : Nat) : Int) = some a := atI_nat (by rw [ez]; rfl)
    exact this
  have es : (V.str ⟨#[a]⟩ = V.str "0") ↔ a = 48 := by
    have e0 : ("0" : Str) = ⟨#[48]⟩ := by decide +kernel
    rw [e0]
    constructor
    · intro e
      have := V.str.inj e
      injection this with e1
      have := congrArg Array.toList e1
      simpa using this
    · intro e; rw [e]
  refine ⟨_, rfl, _, rfl, hz6, _, _, rfl, rfl, _, rfl, ?_⟩
  refine ite2 (fun c => ?_) (fun c => ?_)
  have c4 : (1 : Int) < (z.length : Int) := of_decide_eq_true c
  refine ⟨_, rfl, z, 0, a, rfl, rfl, hz6, ea, rfl, _, rfl, ?_⟩
  refine ite2 (fun c => iteT (bad (by
      have c5 : a = 48 := es.mp (of_decide_eq_true c)
      rw [dz, decide_eq_true (p := 2 ≤ (tl z).length) (by omega), ez, c5]; rfl) _ hs)) (fun c => ?_)
  have z0 : (decide (2 ≤ (tl z).length) && decide ((tl z).head? = some 48)) = false := by
    have c5 : a ≠ 48 := fun e => c (decide_eq_true (es.mpr e))
    rw [ez, decide_eq_false (p := (a :: l).head? = some 48) (by simpa using c5), Bool.and_false]
  rotate_left 1
  have z0 : (decide (2 ≤ (tl z).length) && decide ((tl z).head? = some 48)) = false := by
    have c4 : ¬ (1 : Int) < (z.length : Int) := of_decide_eq_false (Bool.eq_false_iff.mpr c)
    rw [decide_eq_false (p := 2 ≤ (tl z).length) (by omega), Bool.false_and]
  refine iteF ?_
  all_goals
    refine ⟨_, rfl, z, _, rfl, hint, by omega, _, _, rfl, rfl, _, rfl, ?_⟩
    rw [z0, Bool.not_false, Bool.true_and] at dz
    refine ite2 (fun c => ?_) (fun c => ?_)
    · have c6 : (1000000 : Int) < (dval (tl z) : Int) := of_decide_eq_true c
      refine bad ?_ _ hs
      rw [dz, decide_eq_false (by omega)]; rfl
    · have c6 : ¬ (1000000 : Int) < (dval (tl z) : Int) := of_decide_eq_false (Bool.eq_false_iff.mpr c)
      rw [decide_eq_true (by omega)] at dz
      exact ⟨_, rfl, z, _, rfl, hint, by omega, good _ dz _ hs⟩
theorem ok_number (T : Tp w K mg) : Ml P w K mg base 4 "number" P_Parser_number (spNumber K) := by
  have G_peek := ok_peek (P := P) (base := base) T
  have G_take := ok_take (P := P) (base := base) T
  have G_digits := ok_digits (P := P) (base := base) T
  refine ml_of T.f_Parser_number T.cl T.m_number sc_Parser_number (fun _ F => b_Parser_number F) (fun vs H Q E h => ?_) (fun cdv A outer s H vs Q E hr h => ?_)
  · obtain ⟨p, ts, lv, rfl, _⟩ := h
    rfl
  obtain ⟨p, ts, lv, rfl, ha, k1, k2⟩ := h
  obtain ⟨dx, r, row, n, h1, _⟩ := id ha
  refine ⟨_, (pss_cons (ps_if (pt_cmpR op_ne (pe_ml0 G_peek hr (by omega) pasE (pv 0)) pe_str (nomark _)) (pss_one (ps_ret (pe_ml0 G_digits hr (by omega) pasE (pv 0)))) pss_nil)
      (pss_cons (ps_expr (pe_ml0 G_take hr (by omega) pasE (pv 0)))
      (pss_one (ps_ret (pe_un un_neg (pe_ml0 G_digits hr (by omega) pasE (pv 0))))))), ?_⟩
  refine ⟨_, rfl, p, dx, _, rfl, h1, flds_no _ _ _ (by decide +kernel), ?_⟩
  refine ⟨p, ts, lv, rfl, ha, rfl, _, rfl, ?_⟩
  refine ite2 (fun c => ?_) (fun c => ?_)
  · have c' := str_ne c
    refine ⟨_, rfl, p, dx, _, rfl, h1, flds_no _ _ _ (by decide +kernel), ?_⟩
    have en : ∀ s r, ts = s :: r → numR ts = (digOk s).map fun (n : Nat) => ((n : Int), r) := fun s r e => by
      rw [e] at c' ⊢
      exact if_neg c'
    refine ⟨p, ts, lv, rfl, ha, fun s r m e em H' b' a' => k1 m r ?_ H' b' a', fun hn => k2 ?_⟩
    · rw [en s r e, em]; rfl
    · cases ets : ts with
      | nil => rfl
      | cons s r => rw [← ets, en s r ets, hn s r ets]; rfl
  · obtain ⟨q, e⟩ := hdS_ne (by decide +kernel) (str_eq c)
    have en : ∀ d q', q = d :: q' → numR ts = (digOk d).map fun (n : Nat) => (-(n : Int), q') := fun d q' e' => by
      rw [e, e']
      unfold numR
      exact if_pos rfl
    refine ⟨_, rfl, p, dx, _, rfl, h1, flds_no _ _ _ (by decide +kernel), ?_⟩
    refine ⟨p, ts, lv, rfl, ha, fun H' b' a' => ?_⟩
    obtain ⟨dx, r, row, n, h1, _⟩ := id a'
    refine ⟨_, rfl, p, dx, _, rfl, h1, flds_no _ _ _ (by decide +kernel), ?_⟩
    refine ⟨p, _, lv, rfl, a', fun s r m e2 em H2 b2 a2 => ⟨_, rfl, k1 (-(m : Int)) r ?_ H2 (b'.trans b2) a2⟩, fun hn => (k2 ?_).of b'⟩
    · rw [e] at e2
      rw [en s r e2, em]; rfl
    · rw [e] at hn
      cases eq : q with
      | nil =>
        rw [e, eq]
        unfold numR
        exact if_pos rfl
      | cons d q' => rw [en d q' eq, hn d q' eq]; rfl
theorem ok_end (T : Tp w K mg) : Ml P w K mg base 3 "end" P_Parser_end (spEnd K) := by
  have G_peek := ok_peek (P := P) (base := base) T
  refine ml_of T.f_Parser_end T.cl T.m_end sc_Parser_end (fun _ F => b_Parser_end F) (fun vs H Q E h => ?_) (fun cdv A outer s H vs Q E hr h => ?_)
  · obtain ⟨p, ts, lv, rfl, _⟩ := h
    rfl
  obtain ⟨p, ts, lv, rfl, ha, hn, k1, k2⟩ := h
  obtain ⟨dx, r, row, n, h1, _⟩ := id ha
  refine ⟨_, (pss_one (ps_if (pt_cmpR op_ne (pe_ml0 G_peek hr (by omega) pasE (pv 0)) pe_str (nomark _)) (pss_one (ps_bad T hr (by omega) rfl (takes_of rfl rfl rfl rfl) pas0)) pss_nil)), ?_⟩
  refine ⟨_, rfl, p, dx, _, rfl, h1, flds_no _ _ _ (by decide +kernel), ?_⟩
  refine ⟨p, ts, lv, rfl, ha, rfl, _, rfl, ?_⟩
  refine ite2 (fun c => ?_) (fun c => ?_)
  · refine (k2 fun e => str_ne c ?_).bad
    rw [e]; rfl
  · refine k1 ?_
    cases ets : ts with
    | nil => rfl
    | cons s r =>
      have := str_eq c
      rw [ets] at this
      exact absurd this (sne (hn s (by rw [ets]; simp)))
/-- a new parser over a text -/
def spInit (K : PySem.W.Frag) : Sp := fun vs H Q E => ∃ (p dx : Addr) (z : Str), vs = [.ref p, .str z, .bl false] ∧ H p = some (.ins (PC_ K) dx []) ∧ z.length ≤ 1000000 ∧
  (∀ row, tk (tl z) = some row → ∀ H', But p H H' → At K H' p row 0 → Q .non H') ∧ (tk (tl z) = none → Out0 K H E)
theorem put_new {f : Str} {v : V} : putF f v [] = [(f, v)] := rfl
theorem tk_len {l : List Nat} {row : List Str} (h : tk l = some row) : row.length ≤ l.length ∧ ∀ t ∈ row, 1 ≤ (tl t).length ∧ (tl t).length ≤ l.length := by
  generalize hn : l.length = n
  induction n using Nat.strongRecOn generalizing l row with
  | ind n ih =>
    cases l with
    | nil =>
      have e : ([] : List Str) = row := Option.some.inj (show some [] = some row from h)
      subst e
      exact ⟨Nat.zero_le _, fun t ht => absurd ht (by simp)⟩
    | cons c r =>
      rw [tk_cons] at h
      rw [List.length_cons] at hn
      have go : ∀ (q : List Nat) (s : Str), q.length ≤ r.length → 1 ≤ (tl s).length → (tl s).length ≤ n → (tk q).map (s :: ·) = some row → row.length ≤ n ∧ ∀ t ∈ row, 1 ≤ (tl t).length ∧ (tl t).length ≤ n := by
        intro q s hq h1 h2 h
        cases e : tk q with
        | none => rw [e] at h; cases h
        | some row' =>
          rw [e] at h
          have e2 : s :: row' = row := Option.some.inj h
          obtain ⟨g1, g2⟩ := ih q.length (by omega) e rfl
          rw [← e2]
          refine ⟨by rw [List.length_cons]; omega, fun t ht => ?_⟩
          rcases List.mem_cons.mp ht with rfl | ht
          · exact ⟨h1, h2⟩
          · have := g2 t ht
            omega
      split at h
      · obtain ⟨g1, g2⟩ := ih r.length (by omega) h rfl
        exact ⟨by omega, fun t ht => by have := g2 t ht; omega⟩
      have hd := drop_le al r
      have ht : r.tail.length ≤ r.length := by rw [List.length_tail]; omega
      split at h
      · split at h
        · rename_i q
          cases r with
          | nil => exact absurd q.2 (by simp)
          | cons d r' => exact go _ _ ht (by decide) (by show 2 ≤ n; rw [List.length_cons] at hn; omega) h
        · exact go r ⟨#[c]⟩ (Nat.le_refl _) (Nat.le_refl 1) (by show 1 ≤ n; omega) h
      · split at h
        · have hw : (r.takeWhile al).length ≤ r.length := (List.takeWhile_prefix al).length_le
          exact go _ _ hd (by show 1 ≤ (r.takeWhile al).length + 1; omega) (by show (r.takeWhile al).length + 1 ≤ n; omega) h
        · cases h
theorem flds_new (l : Addr) : putF ("level" : Str) (.int 0) (putF ("at" : Str) (.int 0) (putF ("flags" : Str) (.bl true) (putF ("cases" : Str) (.bl false) (putF ("row" : Str) (.ref l) [])))) = flds l 0 0 := by
  repeat (first | rw [put_new] | rw [put_no (by decide +kernel)])
  rfl
theorem putF_len (f : Str) (v : V) : ∀ fs : List (Str × V), (putF f v fs).length ≤ fs.length + 1
  | [] => Nat.le_refl _
  | (g, x) :: r => by
    show (if g = f then (g, v) :: r else (g, x) :: putF f v r).length ≤ _
    have := putF_len f v r
    split <;> simp only [List.length_cons] <;> omega
theorem ok_init (T : Tp w K mg) : Ml P w K mg base 5 "__init__" P_Parser_init (spInit K) := by
  have G_tokens := ok_tokens (P := P) (base := base) T
  refine ml_of T.f_Parser_init T.cl T.m_init sc_Parser_init (fun _ F => b_Parser_init F) (fun vs H Q E h => ?_) (fun cdv A outer s H vs Q E hr h => ?_)
  · obtain ⟨p, dx, z, rfl, _⟩ := h
    rfl
  obtain ⟨p, dx, z, rfl, hp, hl, k1, k2⟩ := h
  refine ⟨_, (pss_cons (ps_fld (pv 0) (pe_cl G_tokens hr (by omega) pasE (pa_cons (pv 1) pa_nil)) rfl)
      (pss_cons (ps_fld (pv 0) (pv 2) rfl)
      (pss_cons (ps_fld (pv 0) pe_bl rfl)
      (pss_cons (ps_fld (pv 0) pe_int rfl)
      (pss_one (ps_fld (pv 0) pe_int rfl)))))), ?_⟩
  refine ⟨_, rfl, z, rfl, hl, fun row er l H1 nl s1 h1 => ?_, k2⟩
  have hp1 := s1 _ _ hp
  have lp : p ≠ l := fun e => by rw [e, h1] at hp1; cases hp1
  refine ⟨_, rfl, p, _, dx, _, rfl, hp1, T.cl, T.na_row, by show 0 < 1000; decide, ?_⟩
  refine ⟨_, rfl, _, rfl, p, _, dx, _, rfl, upd_same, T.cl, T.na_cases, by show 1 < 1000; decide, ?_⟩
  have p1 := putF_len "row" (.ref l) []
  have p2 := putF_len "cases" (.bl false) (putF "row" (.ref l) [])
  have p3 := putF_len "flags" (.bl true) (putF "cases" (.bl false) (putF "row" (.ref l) []))
  have p4 := putF_len "at" (.int 0) (putF "flags" (.bl true) (putF "cases" (.bl false) (putF "row" (.ref l) [])))
  simp only [List.length_nil] at p1
  refine ⟨_, rfl, p, _, dx, _, rfl, upd_same, T.cl, T.na_flags, by omega, ?_⟩
  refine ⟨_, rfl, p, _, dx, _, rfl, upd_same, T.cl, T.na_at, by omega, ?_⟩
  refine ⟨_, rfl, p, _, dx, _, rfl, upd_same, T.cl, T.na_level, by omega, ?_⟩
  rw [flds_new, upd_upd, upd_upd, upd_upd, upd_upd]
  have hb : But p H (upd H1 p (.ins (PC_ K) dx (flds l 0 0))) := (Same.but s1).trans but_upd
  obtain ⟨g1, g2⟩ := tk_len er
  have el := len_tl z
  exact k1 row er _ hb ⟨dx, l, row, 0, upd_same, by rw [upd_ne (Ne.symm lp)]; exact h1, rfl, by omega, fun t ht => by have := len_tl t; have := g2 t ht; omega⟩
end
end KT

namespace KT
open PySem PySem.Spec
open PyProof.Rows L2 KM
/-! ### calls of the parser's methods, as the readings ask them -/
theorem At.ins {K : PySem.W.Frag} {H : Hp} {p : Addr} {ts : List Str} {lv : Nat} (h : At K H p ts lv) : ∃ dx fs, H p = some (.ins (PC_ K) dx fs) ∧ ∀ m : Str, (["row", "cases", "flags", "at", "level"] : List Str).contains m = false → fs.lookup m = none := by
  obtain ⟨dx, r, row, n, h1, _⟩ := h
  exact ⟨dx, _, h1, fun m hm => flds_no _ _ _ hm⟩
section
variable {K : PySem.W.Frag} {H : Hp} {p : Addr} {ts : List Str} {lv : Nat} {σ : L2.St} {i : Nat} {m w : Str} {sp : Sp} {E : XK} {Q : VK}
theorem cm0 (ha : At K H p ts lv) (hi : σ[i]? = some (some (.ref p))) (hm : (["row", "cases", "flags", "at", "level"] : List Str).contains m = false) (h : sp [.ref p] H Q E) : tMeth (PC_ K) m sp [] E (tVar i) tNil σ H Q := by
  obtain ⟨dx, fs, h1, h2⟩ := ha.ins
  exact ⟨_, hi, p, dx, fs, rfl, h1, h2 _ hm, h⟩
theorem cm1 (ha : At K H p ts lv) (hi : σ[i]? = some (some (.ref p))) (hm : (["row", "cases", "flags", "at", "level"] : List Str).contains m = false) (h : sp [.ref p, .str w] H Q E) : tMeth (PC_ K) m sp [] E (tVar i) (tCons (tC (.str w)) tNil) σ H Q := by
  obtain ⟨dx, fs, h1, h2⟩ := ha.ins
  exact ⟨_, hi, p, dx, fs, rfl, h1, h2 _ hm, h⟩
theorem c_peek (ha : At K H p ts lv) (hi : σ[i]? = some (some (.ref p))) (h : Q (.str (hdS ts)) H) : tMeth (PC_ K) "peek" (spPeek K) [] E (tVar i) tNil σ H Q :=
  cm0 ha hi (by decide +kernel) ⟨p, ts, lv, rfl, ha, h⟩
theorem c_take (ha : At K H p ts lv) (hi : σ[i]? = some (some (.ref p))) (h : ∀ H', But p H H' → At K H' p ts.tail lv → Q (.str (hdS ts)) H') : tMeth (PC_ K) "take" (spTake K) [] E (tVar i) tNil σ H Q :=
  cm0 ha hi (by decide +kernel) ⟨p, ts, lv, rfl, ha, h⟩
/-- a term or a condition goes out, or a BadForm -/
structure Fit (K : PySem.W.Frag) (p : Addr) (H : Hp) (lv : Nat) (Q : VK) (E : XK) (x : R) : Prop where
  nt : x ≠ .out
  ok : ∀ n r, x = .ok [n] r → ∀ v H', But p H H' → At K H' p r lv → Dp K H' v (enc n) → Q v H'
  bad : x = .bad → Out K p H E
structure Fit2 (K : PySem.W.Frag) (p : Addr) (H : Hp) (lv : Nat) (Q : VK) (E : XK) (x : R) : Prop where
  nt : x ≠ .out
  ok : ∀ n m r, x = .ok [n, m] r → ∀ a u v H', But p H H' → At K H' p r lv → H' a = some (.tup [u, v]) → Dp K H' u (enc n) → Dp K H' v (enc m) → Q (.ref a) H'
  bad : x = .bad → Out K p H E
theorem Fit.but {x : R} (h : Fit K p H lv Q E x) {H1 : Hp} (b : But p H H1) : Fit K p H1 lv Q E x :=
  ⟨h.nt, fun n r e v H' b' => h.ok n r e v H' (b.trans b'), fun e => (h.bad e).of b⟩
theorem Fit2.but {x : R} (h : Fit2 K p H lv Q E x) {H1 : Hp} (b : But p H H1) : Fit2 K p H1 lv Q E x :=
  ⟨h.nt, fun n m r e a u v H' b' => h.ok n m r e a u v H' (b.trans b'), fun e => (h.bad e).of b⟩
theorem Fit.eq {x y : R} (h : Fit K p H lv Q E x) (e : x = y) : Fit K p H lv Q E y := e ▸ h
theorem Fit2.eq {x y : R} (h : Fit2 K p H lv Q E x) (e : x = y) : Fit2 K p H lv Q E y := e ▸ h
theorem Fit.mono {f g : Nat} {kd : Kd} {l0 : Nat} (h : Fit K p H lv Q E (P f kd l0 ts)) (le : f ≤ g) : Fit K p H lv Q E (P g kd l0 ts) := by
  rw [P_mono le h.nt]; exact h
theorem Fit.put {n : Nd} {r : List Str} (h : Fit K p H lv Q E (.ok [n] r)) {v : V} (a : At K H p r lv) (d : Dp K H v (enc n)) : Q v H := h.ok n r rfl v H (But.refl H) a d
/-- the way through a part -/
theorem Fit.sub {x : R} {k : Nd → List Str → R} {l2 : Nat} {Q2 : VK} (h : Fit K p H lv Q E (x.one k)) (g : ∀ n r, x = .ok [n] r → ∀ v H', But p H H' → At K H' p r l2 → Dp K H' v (enc n) → Fit K p H' lv Q E (k n r) → Q2 v H') : Fit K p H l2 Q2 E x := by
  refine ⟨fun e => h.nt (by rw [e]; rfl), fun n r e v H' b a d => g n r e v H' b a d ?_, fun e => h.bad (by rw [e]; rfl)⟩
  have := h.but b
  rw [e] at this
  exact this
theorem Fit2.sub {x : R} {k : Nd → List Str → R} {l2 : Nat} {Q2 : VK} (h : Fit2 K p H lv Q E (x.one k)) (g : ∀ n r, x = .ok [n] r → ∀ v H', But p H H' → At K H' p r l2 → Dp K H' v (enc n) → Fit2 K p H' lv Q E (k n r) → Q2 v H') : Fit K p H l2 Q2 E x := by
  refine ⟨fun e => h.nt (by rw [e]; rfl), fun n r e v H' b a d => g n r e v H' b a d ?_, fun e => h.bad (by rw [e]; rfl)⟩
  have := h.but b
  rw [e] at this
  exact this
theorem Fit.duo {x : R} {k : Nd → Nd → List Str → R} {l2 : Nat} {Q2 : VK} (h : Fit K p H lv Q E (x.duo k)) (g : ∀ n m r, x = .ok [n, m] r → ∀ a u v H', But p H H' → At K H' p r l2 → H' a = some (.tup [u, v]) → Dp K H' u (enc n) → Dp K H' v (enc m) → Fit K p H' lv Q E (k n m r) → Q2 (.ref a) H') : Fit2 K p H l2 Q2 E x := by
  refine ⟨fun e => h.nt (by rw [e]; rfl), fun n m r e a u v H' b a' t d1 d2 => g n m r e a u v H' b a' t d1 d2 ?_, fun e => h.bad (by rw [e]; rfl)⟩
  have := h.but b
  rw [e] at this
  exact this
theorem exp_hit {k : List Str → R} {r : List Str} (e : ts = w :: r) : exp w ts k = k r := by rw [e]; exact if_pos rfl
theorem exp_mis {k : List Str → R} (e : ∀ r, ts ≠ w :: r) : exp w ts k = .bad := by
  unfold exp
  split
  · rename_i s r
    split
    · rename_i q; exact absurd (by rw [q]) (e r)
    · rfl
  · rfl
theorem beg_hit {k : List Str → R} {r : List Str} {l0 : Nat} (e : ts = w :: r) (hl : l0 < 100) : beg w l0 ts k = k r := by
  unfold beg
  rw [exp_hit e, if_neg (by omega)]
theorem beg_mis {k : List Str → R} {l0 : Nat} (e : ∀ r, ts = w :: r → 100 ≤ l0) : beg w l0 ts k = .bad := by
  unfold beg
  by_cases h : ∃ r, ts = w :: r
  · obtain ⟨r, h⟩ := h
    rw [exp_hit h, if_pos (e r h)]
  · exact exp_mis fun r q => h ⟨r, q⟩
theorem c_need (ha : At K H p ts lv) (hi : σ[i]? = some (some (.ref p))) (hw : decide (w = "") = false) (k1 : ∀ r, ts = w :: r → ∀ H', But p H H' → At K H' p r lv → Q .non H') (k2 : (∀ r, ts ≠ w :: r) → Out K p H E) :
    tMeth (PC_ K) "need" (spNeed K) [] E (tVar i) (tCons (tC (.str w)) tNil) σ H Q := cm1 ha hi (by decide +kernel) ⟨p, ts, lv, w, rfl, ha, hw, k1, k2⟩
theorem c_close (ha : At K H p ts (lv + 1)) (hi : σ[i]? = some (some (.ref p))) (hw : decide (w = "") = false) (k1 : ∀ r, ts = w :: r → ∀ H', But p H H' → At K H' p r lv → Q .non H') (k2 : (∀ r, ts ≠ w :: r) → Out K p H E) :
    tMeth (PC_ K) "close" (spClose K) [] E (tVar i) (tCons (tC (.str w)) tNil) σ H Q := cm1 ha hi (by decide +kernel) ⟨p, ts, lv, w, rfl, ha, hw, k1, k2⟩
theorem c_begin (ha : At K H p ts lv) (hi : σ[i]? = some (some (.ref p))) (hw : decide (w = "") = false) (k1 : ∀ r, ts = w :: r → lv < 100 → ∀ H', But p H H' → At K H' p r (lv + 1) → Q .non H') (k2 : (∀ r, ts = w :: r → 100 ≤ lv) → Out K p H E) :
    tMeth (PC_ K) "begin" (spBegin K) [] E (tVar i) (tCons (tC (.str w)) tNil) σ H Q := cm1 ha hi (by decide +kernel) ⟨p, ts, lv, w, rfl, ha, hw, k1, k2⟩
theorem c_name (ha : At K H p ts lv) (hi : σ[i]? = some (some (.ref p))) (k1 : ∀ s r, ts = s :: r → isName s = true → ∀ H', But p H H' → At K H' p r lv → Q (.str s) H') (k2 : (∀ s r, ts = s :: r → isName s = false) → Out K p H E) :
    tMeth (PC_ K) "name" (spNameM K) [] E (tVar i) tNil σ H Q := cm0 ha hi (by decide +kernel) ⟨p, ts, lv, rfl, ha, k1, k2⟩
theorem c_digits (ha : At K H p ts lv) (hi : σ[i]? = some (some (.ref p))) (k1 : ∀ s r n, ts = s :: r → digOk s = some n → ∀ H', But p H H' → At K H' p r lv → Q (.int (n : Int)) H') (k2 : (∀ s r, ts = s :: r → digOk s = none) → Out K p H E) :
    tMeth (PC_ K) "digits" (spDigits K) [] E (tVar i) tNil σ H Q := cm0 ha hi (by decide +kernel) ⟨p, ts, lv, rfl, ha, k1, k2⟩
theorem c_number (ha : At K H p ts lv) (hi : σ[i]? = some (some (.ref p))) (k1 : ∀ n r, numR ts = some (n, r) → ∀ H', But p H H' → At K H' p r lv → Q (.int n) H') (k2 : numR ts = none → Out K p H E) :
    tMeth (PC_ K) "number" (spNumber K) [] E (tVar i) tNil σ H Q := cm0 ha hi (by decide +kernel) ⟨p, ts, lv, rfl, ha, k1, k2⟩
/-! ### the promises of the group -/
def spOne (K : PySem.W.Frag) (f : Nat) (kd : Kd) : Sp := fun vs H Q E => ∃ (p : Addr) (ts : List Str) (lv : Nat), vs = [.ref p] ∧ At K H p ts lv ∧ Fit K p H lv Q E (P f kd lv ts)
def spTwo (K : PySem.W.Frag) (f : Nat) : Sp := fun vs H Q E => ∃ (p : Addr) (ts : List Str) (lv : Nat), vs = [.ref p] ∧ At K H p ts (lv + 1) ∧ Fit2 K p H lv Q E (P f .two (lv + 1) ts)
theorem c_one {f : Nat} {kd : Kd} (ha : At K H p ts lv) (hi : σ[i]? = some (some (.ref p))) (hm : (["row", "cases", "flags", "at", "level"] : List Str).contains m = false) (h : Fit K p H lv Q E (P f kd lv ts)) :
    tMeth (PC_ K) m (spOne K f kd) [] E (tVar i) tNil σ H Q := cm0 ha hi hm ⟨p, ts, lv, rfl, ha, h⟩
theorem c_two {f : Nat} (ha : At K H p ts (lv + 1)) (hi : σ[i]? = some (some (.ref p))) (h : Fit2 K p H lv Q E (P f .two (lv + 1) ts)) :
    tMeth (PC_ K) "two_terms" (spTwo K f) [] E (tVar i) tNil σ H Q := cm0 ha hi (by decide +kernel) ⟨p, ts, lv, rfl, ha, h⟩
theorem mkT {vs : List V} {ds : List PyData} {a : Addr} (hn : H a = none) (h : DpAll K H vs ds) : Dp K (upd H a (.tup vs)) (.ref a) (.tuple ds) := .tup (.inl (.inl upd_same)) (DpAll.same (same_upd hn) h)
end
structure Mf (P : Program) (w : World) (K : PySem.W.Frag) (mg : Str → Option Value) (base : Heap) (n : Nat) (m : Str) (ps : List Str) (sp : Sp) : Prop where
  fn : ∃ fd, FnF P w K mg base (L2.CX P w) n (He.ma K (PC_ K) m) fd ps sp ∧ Binds K fd ps []
  cl : Cls K (PC_ K)
  ms : Meth K (PC_ K) m (He.ma K (PC_ K) m)
section
variable {P : Program} {w : World} {K : PySem.W.Frag} {mg : Str → Option Value} {base : Heap}
theorem mf_of {m q : Str} {pa : Arguments} {bd : List Stmt} {sc : Scope} {N ps : List Str} {n : Nat} {sp : Sp} (F : ∃ fd, FunD K m q pa bd sc [] [] (He.ma K (PC_ K) m) fd) (c : Cls K (PC_ K)) (ms : Meth K (PC_ K) m (He.ma K (PC_ K) m)) (S : FnScope N ps sc)
    (b : ∀ fd, FunD K m q pa bd sc [] [] (He.ma K (PC_ K) m) fd → Binds K fd ps []) (len : ∀ vs H Q E, sp vs H Q E → vs.length = ps.length)
    (hb : ∀ (cdv : Value) (A : Around) (outer : List Env) (s : Shared) (H : Hp) (vs : List V) (Q : VK) (E : XK), RF n (A.deeper (envOfC q sc s.heap.objs.size (He.ma K (PC_ K) m) cdv)) → sp vs H Q E →
      ∃ t, PSs (cxOf (L2.CX P w) P w K mg base N q sc (He.ma K (PC_ K) m) cdv A outer s H E) bd t ∧ t { nx := fun _ H' => Q .non H', rt := Q } (start N vs) H) : Mf P w K mg base (n + 1) m ps sp := by
  obtain ⟨fd, F⟩ := F
  exact ⟨⟨fd, fnF_of F S len hb, b fd F⟩, c, ms⟩
theorem Mf.mono {j k : Nat} {x : Str} {ps : List Str} {sp : Sp} (c : Mf P w K mg base j x ps sp) (h : j ≤ k) : Mf P w K mg base k x ps sp := by
  obtain ⟨fd, F, b⟩ := c.fn
  exact ⟨⟨fd, F.mono h, b⟩, c.cl, c.ms⟩
theorem Mf.ml {j k : Nat} {x : Str} {ps : List Str} {sp : Sp} (c : Mf P w K mg base j x ps sp) (h : j ≤ 3 * k) : Ml P w K mg base k x ps sp := by
  obtain ⟨fd, F, b⟩ := c.fn
  exact ⟨⟨fd, F.ok h, b⟩, c.cl, c.ms⟩
end
section
variable {X : Cx} {j k : Nat} {E : XK} {x m : Str} {ps : List Str} {sp : Sp} {e o : Expr} {ta : TE} {p pos apos : Pos}
theorem pe_mf0 {pl : Sem Bool} (c : Mf X.prog X.w X.K X.mg X.base k m ps sp) (hr : RF j X.A) (hk : k ≤ j) (hx : Passes (L2.CX X.prog X.w) X E) (ho : PE X o ta)
    (ht : eval (.Call (.Attribute o m apos) [] [] pos) X.env = (do
      let ov ← eval o X.env
      standAt apos.atName
      let (f, first) ← holding [ov] (getMethod ov m pl)
      callWith pos f first (backTo pos (starEach [] X.env)) (backToKw pos (keywordEach [] X.env))) := by rfl) :
    PE X (.Call (.Attribute o m apos) [] [] pos) (tMeth (PC_ X.K) m sp [] E ta tNil) := by
  obtain ⟨fd, F, b⟩ := c.fn
  exact pe_meth0F ho c.cl c.ms F (hr.mono hk) b hx ht
end
end KT

namespace KT
open PySem PySem.Spec
open PyProof.Rows L2 KM
section
variable {P : Program} {w : World} {K : PySem.W.Frag} {mg : Str → Option Value} {base : Heap}
theorem dbut {p : Addr} {H H' : Hp} {v : V} {d : PyData} (h : Dp K H v d) (b : But p H H') (s : Safe p H) : Dp K H' v d := Dp.but b s h
theorem inL {s : Str} {l : List Str} (h : inV (.str s) (l.map V.str) = true) : s ∈ l := by
  rw [inV_str, List.contains_eq_mem] at h
  exact of_decide_eq_true h
theorem ninL {s : Str} {l : List Str} (h : ¬ inV (.str s) (l.map V.str) = true) : s ∉ l := by
  rw [inV_str, List.contains_eq_mem] at h
  exact fun q => h (decide_eq_true q)
theorem seq_tup {H : Hp} {a : Addr} {xs : List V} (h : H a = some (.tup xs)) : SqL K H a xs ∨ SqT K H a xs := .inr (.inl (.inl h))
theorem d2 {H : Hp} {x y : V} {a b : PyData} (h1 : Dp K H x a) (h2 : Dp K H y b) : DpAll K H [x, y] [a, b] := .cons h1 (.cons h2 .nil)
theorem d3 {H : Hp} {x y z : V} {a b c : PyData} (h1 : Dp K H x a) (h2 : Dp K H y b) (h3 : Dp K H z c) : DpAll K H [x, y, z] [a, b, c] := .cons h1 (d2 h2 h3)
theorem d4 {H : Hp} {x y z v : V} {a b c d : PyData} (h1 : Dp K H x a) (h2 : Dp K H y b) (h3 : Dp K H z c) (h4 : Dp K H v d) : DpAll K H [x, y, z, v] [a, b, c, d] := .cons h1 (d3 h2 h3 h4)
theorem pm2 : (["+", "-"] : List Str).map V.str = [.str "+", .str "-"] := rfl
theorem adds_no {t : Nd} {ts : List Str} (h : hdS ts ∉ (["+", "-"] : List Str)) : adds t ts = .ok [t] ts := by
  cases ts with
  | nil => rfl
  | cons s r =>
    have hs : ¬ (s = "+" ∨ s = "-") := fun e => h (by simpa using e)
    cases r with
    | nil => exact if_neg hs
    | cons d q => exact if_neg hs
theorem adds_yes {t : Nd} {s : Str} {r : List Str} (h : s ∈ (["+", "-"] : List Str)) : adds t (s :: r) = (match r with
    | [] => .bad
    | d :: q => match digOk d with
      | some n => adds (.plus t (if s = "-" then -(n : Int) else (n : Int))) q
      | none => .bad) := by
  have hs : s = "+" ∨ s = "-" := by simpa using h
  cases r with
  | nil => exact if_pos hs
  | cons d q => exact if_pos hs
theorem mf_term (T : Tp w K mg) {f : Nat} (M_atom : Mf P w K mg base (f + 15) "atom" P_Parser_atom (spOne K f .atom)) : Mf P w K mg base (f + 16) "term" P_Parser_term (spOne K (f + 1) .term) := by
  have G_peek := ok_peek (P := P) (base := base) T
  have G_take := ok_take (P := P) (base := base) T
  have G_digits := ok_digits (P := P) (base := base) T
  refine mf_of T.f_Parser_term T.cl T.m_term sc_Parser_term (fun _ F => b_Parser_term F) (fun vs H Q E h => by obtain ⟨p, ts, lv, rfl, _⟩ := h; rfl) (fun cdv A outer s H vs Q E hf h => ?_)
  have hr : Room 4 _ := hf.room (by omega)
  obtain ⟨p, ts, lv, rfl, ha, h⟩ := h
  refine ⟨_, (pss_cons (ps_set (i := 1) sc_Parser_term.nd rfl (Or.inl rfl) (pe_mf0 M_atom hf (by omega) pasE (pv 0)))
      (pss_cons (ps_while pOwn (pt_cmpR op_in_seq (pe_ml0 G_peek hr (by omega) pasE (pv 0)) (pe_tup (pa_cons pe_str (pa_cons pe_str pa_nil))) (by rfl)) (pss_cons (ps_set (i := 2) sc_Parser_term.nd rfl (Or.inl rfl) (pe_ml0 G_take hr (by omega) pasE (pv 0)))
      (pss_cons (ps_set (i := 3) sc_Parser_term.nd rfl (Or.inl rfl) (pe_ml0 G_digits hr (by omega) pasE (pv 0)))
      (pss_cons (ps_if (pt_cmpR op_eq (pv 2) pe_str (nomark _)) (pss_one (ps_set (i := 3) sc_Parser_term.nd rfl (Or.inl rfl) (pe_un un_neg (pv 3)))) pss_nil)
      (pss_one (ps_set (i := 1) sc_Parser_term.nd rfl (Or.inl rfl) (pe_tup (pa_cons pe_str (pa_cons (pv 1) (pa_cons (pv 3) pa_nil))))))))))
      (pss_one (ps_ret (pv 1))))), ?_⟩
  change Fit K p H lv Q E ((KM.P f .atom lv ts).one fun t r => adds t r) at h
  refine c_one ha rfl (by decide +kernel) (h.sub fun n r e v H1 b1 a1 d1 h => ?_)
  refine ⟨fun m σ H' => ∃ (t : Nd) (v : V) (ts : List Str) (x y : Option V), σ = [some (.ref p), some v, x, y] ∧ At K H' p ts lv ∧ Dp K H' v (enc t) ∧ Fit K p H' lv Q E (adds t ts) ∧ m = ts.length, ⟨_, n, v, r, none, none, rfl, a1, d1, h, rfl⟩, ?_⟩
  rintro m σ H' ⟨t, v, ts, x, y, rfl, a2, d2, h, rfl⟩
  refine c_peek a2 rfl ?_
  refine ⟨by show 2 ≤ sizeLine; decide, fun b nb => ?_⟩
  have s3 := same_upd (o := .tup [.str "+", .str "-"]) nb
  refine ⟨b, _, rfl, seq_tup upd_same, rfl, rfl, _, rfl, ?_⟩
  refine ite2 (fun c => ?_) (fun c => ?_)
  · have c' : hdS ts ∈ (["+", "-"] : List Str) := inL c
    cases ts with
    | nil => exact absurd c' (by decide +kernel)
    | cons s q =>
    refine ⟨_, fun σ' H' z => z, ?_⟩
    refine c_take (a2.but s3) rfl fun H4 b4 a4 => ?_
    have c2 : s ∈ (["+", "-"] : List Str) := c'
    rw [adds_yes c2] at h
    have b34 : But p H' H4 := (Same.but s3).trans b4
    refine c_digits a4 rfl (fun d r n e en H5 b5 a5 => ?_) (fun e => (h.bad ?_).of b34)
    · have e' : q = d :: r := e
      subst e'
      simp only [en] at h
      have b5' := b34.trans b5
      have dv5 := dbut (dbut (Dp.same s3 d2) b4 (a2.but s3).safe) b5 a4.safe
      refine ⟨_, rfl, rfl, _, rfl, ?_⟩
      refine ite2 (fun c3 => ?_) (fun c3 => ?_)
      · have c3' : s = "-" := V.str.inj (of_decide_eq_true c3)
        refine ⟨_, rfl, _, rfl, _, rfl, _, rfl, by show 3 ≤ sizeLine; decide, fun a na => ?_⟩
        rw [if_pos c3'] at h
        have s6 := same_upd (o := .tup [.str "plus", v, .int (-(n : Int))]) na
        exact ⟨r.length, by simp only [List.length_cons]; omega, .plus t (-(n : Int)), .ref a, r, _, _, rfl, a5.but s6, mkT na (d3 (.str _) dv5 (.int _)), h.but (b5'.trans (Same.but s6)), rfl⟩
      · have c3' : ¬ s = "-" := fun e => c3 (decide_eq_true (congrArg V.str e))
        refine ⟨_, rfl, _, rfl, by show 3 ≤ sizeLine; decide, fun a na => ?_⟩
        rw [if_neg c3'] at h
        have s6 := same_upd (o := .tup [.str "plus", v, .int (n : Int)]) na
        exact ⟨r.length, by simp only [List.length_cons]; omega, .plus t (n : Int), .ref a, r, _, _, rfl, a5.but s6, mkT na (d3 (.str _) dv5 (.int _)), h.but (b5'.trans (Same.but s6)), rfl⟩
    · cases q with
      | nil => rfl
      | cons d r =>
        have := e d r rfl
        simp only [this]
  · have c' : hdS ts ∉ (["+", "-"] : List Str) := ninL c
    rw [adds_no c'] at h
    exact ⟨_, rfl, (h.but (Same.but s3)).put (a2.but s3) (Dp.same s3 d2)⟩
theorem len_one {f : Nat} {kd : Kd} : ∀ vs H Q E, spOne K f kd vs H Q E → vs.length = 1 := fun vs H Q E h => by
  obtain ⟨p, ts, lv, rfl, _⟩ := h
  rfl
theorem mf_inner (T : Tp w K mg) {f : Nat} (M_term : Mf P w K mg base (f + 15) "term" P_Parser_term (spOne K f .term)) : Mf P w K mg base (f + 16) "inner" P_Parser_inner (spOne K (f + 1) .inner) := by
  have G_begin := ok_begin (P := P) (base := base) T
  have G_close := ok_close (P := P) (base := base) T
  refine mf_of T.f_Parser_inner T.cl T.m_inner sc_Parser_inner (fun _ F => b_Parser_inner F) len_one (fun cdv A outer s H vs Q E hf h => ?_)
  have hr : Room 4 _ := hf.room (by omega)
  obtain ⟨p, ts, lv, rfl, ha, h⟩ := h
  refine ⟨_, (pss_cons (ps_expr (pe_ml G_begin hr (by omega) pasE (pv 0) (pa_cons pe_str pa_nil)))
      (pss_cons (ps_set (i := 1) sc_Parser_inner.nd rfl (Or.inl rfl) (pe_mf0 M_term hf (by omega) pasE (pv 0)))
      (pss_cons (ps_expr (pe_ml G_close hr (by omega) pasE (pv 0) (pa_cons pe_str pa_nil)))
      (pss_one (ps_ret (pv 1)))))), ?_⟩
  change Fit K p H lv Q E (beg "(" lv ts fun r => (KM.P f .term (lv + 1) r).one fun t r => exp ")" r fun r => .ok [t] r) at h
  refine c_begin ha rfl (by decide +kernel) (fun r e l H1 b1 a1 => ?_) (fun e => h.bad (beg_mis e))
  rw [beg_hit e l] at h
  refine c_one a1 rfl (by decide +kernel) ((h.but b1).sub fun n r e v H2 b2 a2 d h => ?_)
  refine c_close a2 rfl (by decide +kernel) (fun r e H3 b3 a3 => ?_) (fun e => h.bad (exp_mis e))
  rw [exp_hit e] at h
  exact ⟨_, rfl, (h.but b3).put a3 (dbut d b3 a2.safe)⟩
theorem mf_two (T : Tp w K mg) {f : Nat} (M_term : Mf P w K mg base (f + 15) "term" P_Parser_term (spOne K f .term)) : Mf P w K mg base (f + 16) "two_terms" P_Parser_two_terms (spTwo K (f + 1)) := by
  have G_need := ok_need (P := P) (base := base) T
  have G_close := ok_close (P := P) (base := base) T
  refine mf_of T.f_Parser_two_terms T.cl T.m_two_terms sc_Parser_two_terms (fun _ F => b_Parser_two_terms F) (fun vs H Q E h => ?_) (fun cdv A outer s H vs Q E hf h => ?_)
  · obtain ⟨p, ts, lv, rfl, _⟩ := h
    rfl
  have hr : Room 4 _ := hf.room (by omega)
  obtain ⟨p, ts, lv, rfl, ha, h⟩ := h
  refine ⟨_, (pss_cons (ps_set (i := 1) sc_Parser_two_terms.nd rfl (Or.inl rfl) (pe_mf0 M_term hf (by omega) pasE (pv 0)))
      (pss_cons (ps_expr (pe_ml G_need hr (by omega) pasE (pv 0) (pa_cons pe_str pa_nil)))
      (pss_cons (ps_set (i := 2) sc_Parser_two_terms.nd rfl (Or.inl rfl) (pe_mf0 M_term hf (by omega) pasE (pv 0)))
      (pss_cons (ps_expr (pe_ml G_close hr (by omega) pasE (pv 0) (pa_cons pe_str pa_nil)))
      (pss_one (ps_ret (pe_tup (pa_cons (pv 1) (pa_cons (pv 2) pa_nil))))))))), ?_⟩
  change Fit2 K p H lv Q E ((KM.P f .term (lv + 1) ts).one fun t r => exp "," r fun r => (KM.P f .term (lv + 1) r).one fun u r => exp ")" r fun r => .ok [t, u] r) at h
  refine c_one ha rfl (by decide +kernel) (h.sub fun n r e v1 H1 b1 a1 d1 h => ?_)
  refine c_need a1 rfl (by decide +kernel) (fun r e H2 b2 a2 => ?_) (fun e => h.bad (exp_mis e))
  rw [exp_hit e] at h
  refine c_one a2 rfl (by decide +kernel) ((h.but b2).sub fun m r e v2 H3 b3 a3 d2 h => ?_)
  refine c_close a3 rfl (by decide +kernel) (fun r e H4 b4 a4 => ?_) (fun e => h.bad (exp_mis e))
  rw [exp_hit e] at h
  refine ⟨_, rfl, _, rfl, by show 2 ≤ sizeLine; decide, fun a na => ?_⟩
  have s5 := same_upd (o := .tup [v1, v2]) na
  refine h.ok n m r rfl a v1 v2 _ (b4.trans (Same.but s5)) (a4.but s5) upd_same (Dp.same s5 ?_) (Dp.same s5 (dbut d2 b4 a3.safe))
  exact dbut (dbut (dbut d1 b2 a1.safe) b3 a2.safe) b4 a3.safe
theorem mf_condition (T : Tp w K mg) {f : Nat} (M_both : Mf P w K mg base (f + 15) "both" P_Parser_both (spOne K f .both)) : Mf P w K mg base (f + 16) "condition" P_Parser_condition (spOne K (f + 1) .cond) := by
  have G_peek := ok_peek (P := P) (base := base) T
  have G_take := ok_take (P := P) (base := base) T
  refine mf_of T.f_Parser_condition T.cl T.m_condition sc_Parser_condition (fun _ F => b_Parser_condition F) len_one (fun cdv A outer s H vs Q E hf h => ?_)
  have hr : Room 4 _ := hf.room (by omega)
  obtain ⟨p, ts, lv, rfl, ha, h⟩ := h
  refine ⟨_, (pss_cons (ps_set (i := 1) sc_Parser_condition.nd rfl (Or.inl rfl) (pe_mf0 M_both hf (by omega) pasE (pv 0)))
      (pss_cons (ps_while pOwn (pt_cmpR op_eq (pe_ml0 G_peek hr (by omega) pasE (pv 0)) pe_str (nomark _)) (pss_cons (ps_expr (pe_ml0 G_take hr (by omega) pasE (pv 0)))
      (pss_one (ps_set (i := 1) sc_Parser_condition.nd rfl (Or.inl rfl) (pe_tup (pa_cons pe_str (pa_cons (pv 1) (pa_cons (pe_mf0 M_both hf (by omega) pasE (pv 0)) pa_nil))))))))
      (pss_one (ps_ret (pv 1))))), ?_⟩
  change Fit K p H lv Q E ((KM.P f .both lv ts).one fun c r => KM.P f (.ors c) lv r) at h
  refine c_one ha rfl (by decide +kernel) (h.sub fun n r e v H1 b1 a1 d1 h => ?_)
  refine ⟨fun m σ H' => ∃ (c : Nd) (v : V) (ts : List Str) (g : Nat), σ = [some (.ref p), some v] ∧ At K H' p ts lv ∧ Dp K H' v (enc c) ∧ Fit K p H' lv Q E (KM.P g (.ors c) lv ts) ∧ g ≤ f ∧ m = g, ⟨_, n, v, r, f, rfl, a1, d1, h, Nat.le_refl _, rfl⟩, ?_⟩
  rintro m σ H' ⟨c, v, ts, g, rfl, a2, d2, h, hg, rfl⟩
  refine c_peek a2 rfl ⟨rfl, _, rfl, ?_⟩
  cases m with
  | zero => exact absurd rfl h.nt
  | succ g =>
  refine ite2 (fun c3 => ?_) (fun c3 => ?_)
  · obtain ⟨q, e⟩ := hdS_ne (by decide +kernel) (V.str.inj (of_decide_eq_true c3))
    subst e
    have h2 : Fit K p H' lv Q E ((KM.P g .both lv q).one fun d r => KM.P g (.ors (.disj c d)) lv r) := h.eq ((step_ors (KM.P g) c lv "or" q).trans (if_pos rfl))
    refine ⟨_, fun σ' H' z => z, ?_⟩
    refine c_take a2 rfl fun H4 b4 a4 => ?_
    have d4 := dbut d2 b4 a2.safe
    refine ⟨_, rfl, ?_⟩
    refine c_one a4 rfl (by decide +kernel) (Fit.mono ((h2.but b4).sub fun n r e u H5 b5 a5 d5 h5 => ?_) (by omega))
    refine ⟨by show 3 ≤ sizeLine; decide, fun a na => ?_⟩
    have s6 := same_upd (o := .tup [.str "or", v, u]) na
    exact ⟨g, by omega, .disj c n, .ref a, r, g, rfl, a5.but s6, mkT na (d3 (.str _) (dbut d4 b5 a4.safe) d5), h5.but (Same.but s6), by omega, rfl⟩
  · have hn : ¬ hdS ts = "or" := fun e => c3 (decide_eq_true (congrArg V.str e))
    refine ⟨_, rfl, ?_⟩
    cases ts with
    | nil => exact h.put a2 d2
    | cons s q => exact (h.eq (if_neg hn)).put a2 d2
theorem mf_both (T : Tp w K mg) {f : Nat} (M_unit : Mf P w K mg base (f + 15) "unit" P_Parser_unit (spOne K f .unit)) : Mf P w K mg base (f + 16) "both" P_Parser_both (spOne K (f + 1) .both) := by
  have G_peek := ok_peek (P := P) (base := base) T
  have G_take := ok_take (P := P) (base := base) T
  refine mf_of T.f_Parser_both T.cl T.m_both sc_Parser_both (fun _ F => b_Parser_both F) len_one (fun cdv A outer s H vs Q E hf h => ?_)
  have hr : Room 4 _ := hf.room (by omega)
  obtain ⟨p, ts, lv, rfl, ha, h⟩ := h
  refine ⟨_, (pss_cons (ps_set (i := 1) sc_Parser_both.nd rfl (Or.inl rfl) (pe_mf0 M_unit hf (by omega) pasE (pv 0)))
      (pss_cons (ps_while pOwn (pt_cmpR op_eq (pe_ml0 G_peek hr (by omega) pasE (pv 0)) pe_str (nomark _)) (pss_cons (ps_expr (pe_ml0 G_take hr (by omega) pasE (pv 0)))
      (pss_one (ps_set (i := 1) sc_Parser_both.nd rfl (Or.inl rfl) (pe_tup (pa_cons pe_str (pa_cons (pv 1) (pa_cons (pe_mf0 M_unit hf (by omega) pasE (pv 0)) pa_nil))))))))
      (pss_one (ps_ret (pv 1))))), ?_⟩
  change Fit K p H lv Q E ((KM.P f .unit lv ts).one fun c r => KM.P f (.ands c) lv r) at h
  refine c_one ha rfl (by decide +kernel) (h.sub fun n r e v H1 b1 a1 d1 h => ?_)
  refine ⟨fun m σ H' => ∃ (c : Nd) (v : V) (ts : List Str) (g : Nat), σ = [some (.ref p), some v] ∧ At K H' p ts lv ∧ Dp K H' v (enc c) ∧ Fit K p H' lv Q E (KM.P g (.ands c) lv ts) ∧ g ≤ f ∧ m = g, ⟨_, n, v, r, f, rfl, a1, d1, h, Nat.le_refl _, rfl⟩, ?_⟩
  rintro m σ H' ⟨c, v, ts, g, rfl, a2, d2, h, hg, rfl⟩
  refine c_peek a2 rfl ⟨rfl, _, rfl, ?_⟩
  cases m with
  | zero => exact absurd rfl h.nt
  | succ g =>
  refine ite2 (fun c3 => ?_) (fun c3 => ?_)
  · obtain ⟨q, e⟩ := hdS_ne (by decide +kernel) (V.str.inj (of_decide_eq_true c3))
    subst e
    have h2 : Fit K p H' lv Q E ((KM.P g .unit lv q).one fun d r => KM.P g (.ands (.conj c d)) lv r) := h.eq ((step_ands (KM.P g) c lv "and" q).trans (if_pos rfl))
    refine ⟨_, fun σ' H' z => z, ?_⟩
    refine c_take a2 rfl fun H4 b4 a4 => ?_
    have d4 := dbut d2 b4 a2.safe
    refine ⟨_, rfl, ?_⟩
    refine c_one a4 rfl (by decide +kernel) (Fit.mono ((h2.but b4).sub fun n r e u H5 b5 a5 d5 h5 => ?_) (by omega))
    refine ⟨by show 3 ≤ sizeLine; decide, fun a na => ?_⟩
    have s6 := same_upd (o := .tup [.str "and", v, u]) na
    exact ⟨g, by omega, .conj c n, .ref a, r, g, rfl, a5.but s6, mkT na (d3 (.str _) (dbut d4 b5 a4.safe) d5), h5.but (Same.but s6), by omega, rfl⟩
  · have hn : ¬ hdS ts = "and" := fun e => c3 (decide_eq_true (congrArg V.str e))
    refine ⟨_, rfl, ?_⟩
    cases ts with
    | nil => exact h.put a2 d2
    | cons s q => exact (h.eq (if_neg hn)).put a2 d2
theorem f_flags (T : Tp w K mg) {H : Hp} {p : Addr} {ts : List Str} {lv i : Nat} {σ : L2.St} {Q : VK} (ha : At K H p ts lv) (hi : σ[i]? = some (some (.ref p))) (h : Q (.bl true) H) : tFld K (tVar i) "flags" σ H Q := by
  obtain ⟨dx, r, row, n, h1, h2, h3, h4, h5⟩ := ha
  exact ⟨_, hi, p, _, dx, _, _, rfl, h1, T.cl, T.na_flags, flds_flags _ _ _, h⟩
theorem f_cases (T : Tp w K mg) {H : Hp} {p : Addr} {ts : List Str} {lv i : Nat} {σ : L2.St} {Q : VK} (ha : At K H p ts lv) (hi : σ[i]? = some (some (.ref p))) (h : Q (.bl false) H) : tFld K (tVar i) "cases" σ H Q := by
  obtain ⟨dx, r, row, n, h1, h2, h3, h4, h5⟩ := ha
  exact ⟨_, hi, p, _, dx, _, _, rfl, h1, T.cl, T.na_cases, flds_cases _ _ _, h⟩
theorem s_down (T : Tp w K mg) {H : Hp} {p : Addr} {ts : List Str} {lv i : Nat} {σ : L2.St} {D : Ends} (ha : At K H p ts (lv + 1)) (hi : σ[i]? = some (some (.ref p))) (h : ∀ H', But p H H' → At K H' p ts lv → D.nx σ H') :
    sFldAug K (tVar i) (tC (.int 1)) rSub "level" D σ H := by
  obtain ⟨dx, r, row, n, h1, h2, h3, h4, h5⟩ := ha
  refine ⟨_, hi, p, _, dx, _, _, rfl, h1, T.cl, T.na_level, flds_level _ _ _, _, _, rfl, rfl, dx, _, h1, by show 5 < 1000; decide, ?_⟩
  have e1 : (((lv + 1 : Nat) : Int) - 1) = ((lv : Nat) : Int) := by omega
  have e2 : putF "level" (V.int (((lv + 1 : Nat) : Int) - 1)) (flds r n (lv + 1)) = flds r n lv := by rw [e1]; exact put_level _ _ _ _
  rw [e2]
  refine h _ but_upd ⟨dx, r, row, n, upd_same, ?_, h3, h4, h5⟩
  rw [upd_ne fun z => by rw [z, h1] at h2; exact HO.noConfusion (Option.some.inj h2)]
  exact h2
theorem mf_compared (T : Tp w K mg) {f : Nat} (M_term : Mf P w K mg base (f + 15) "term" P_Parser_term (spOne K f .term)) : Mf P w K mg base (f + 16) "compared" P_Parser_compared (spOne K (f + 1) .comp) := by
  have G_take := ok_take (P := P) (base := base) T
  refine mf_of T.f_Parser_compared T.cl T.m_compared sc_Parser_compared (fun _ F => b_Parser_compared F) len_one (fun cdv A outer s H vs Q E hf h => ?_)
  have hr : Room 4 _ := hf.room (by omega)
  obtain ⟨p, ts, lv, rfl, ha, h⟩ := h
  refine ⟨_, (pss_cons (ps_set (i := 1) sc_Parser_compared.nd rfl (Or.inl rfl) (pe_mf0 M_term hf (by omega) pasE (pv 0)))
      (pss_cons (ps_set (i := 2) sc_Parser_compared.nd rfl (Or.inl rfl) (pe_ml0 G_take hr (by omega) pasE (pv 0)))
      (pss_cons (ps_if (pt_cmpR op_notIn_seq (pv 2) (pe_tup (pa_cons pe_str (pa_cons pe_str (pa_cons pe_str pa_nil)))) (by rfl)) (pss_one (ps_bad T hr (by omega) rfl (takes_of rfl rfl rfl rfl) pas0)) pss_nil)
      (pss_cons (ps_set (i := 3) sc_Parser_compared.nd rfl (Or.inl rfl) (pe_mf0 M_term hf (by omega) pasE (pv 0)))
      (pss_cons (ps_if (pt_cmpR op_eq (pv 2) pe_str (nomark _)) (pss_one (ps_ret (pe_tup (pa_cons pe_str (pa_cons (pe_tup (pa_cons pe_str (pa_cons (pv 1) (pa_cons pe_int pa_nil)))) (pa_cons (pv 3) pa_nil)))))) pss_nil)
      (pss_cons (ps_if (pt_cmpR op_eq (pv 2) pe_str (nomark _)) (pss_one (ps_ret (pe_tup (pa_cons pe_str (pa_cons (pe_tup (pa_cons pe_str (pa_cons (pv 1) (pa_cons (pv 3) pa_nil)))) (pa_cons (pe_tup (pa_cons pe_str (pa_cons (pv 3) (pa_cons (pv 1) pa_nil)))) pa_nil)))))) pss_nil)
      (pss_one (ps_ret (pe_tup (pa_cons pe_str (pa_cons (pv 1) (pa_cons (pv 3) pa_nil)))))))))))), ?_⟩
  change Fit K p H lv Q E ((KM.P f .term lv ts).one fun t r => (match r with
    | [] => .bad
    | s :: r => if s = "<=" ∨ s = "<" ∨ s = "=" then (KM.P f .term lv r).one fun u r => .ok [relN s t u] r else .bad)) at h
  refine c_one ha rfl (by decide +kernel) (h.sub fun n r e v1 H1 b1 a1 d1 h => ?_)
  refine c_take a1 rfl fun H2 b2 a2 => ?_
  refine ⟨_, rfl, by show 3 ≤ sizeLine; decide, fun b nb => ?_⟩
  have s3 := same_upd (o := .tup [.str "<=", .str "<", .str "="]) nb
  refine ⟨b, _, rfl, seq_tup upd_same, rfl, rfl, _, rfl, ?_⟩
  refine ite2 (fun c => ?_) (fun c => ?_)
  · have c' : hdS r ∉ (["<=", "<", "="] : List Str) := ninL (by simpa using c)
    refine ((h.bad ?_).of (b2.trans (Same.but s3))).bad
    cases r with
    | nil => rfl
    | cons s q => exact if_neg fun z => c' (by simpa using z)
  have c' : hdS r ∈ (["<=", "<", "="] : List Str) := inL (by simpa using c)
  cases r with
  | nil => exact absurd c' (by decide +kernel)
  | cons s q =>
  have c2 : s = "<=" ∨ s = "<" ∨ s = "=" := by simpa using c'
  have h2 : Fit K p H1 lv Q E ((KM.P f .term lv q).one fun u r => .ok [relN s n u] r) := h.eq (if_pos c2)
  have a3 := a2.but s3
  have dv1 := Dp.same s3 (dbut d1 b2 a1.safe)
  refine c_one a3 rfl (by decide +kernel) ((h2.but (b2.trans (Same.but s3))).sub fun m r e v2 H4 b4 a4 d2 h => ?_)
  have dv1 := dbut dv1 b4 a3.safe
  refine ⟨_, rfl, rfl, _, rfl, ?_⟩
  refine ite2 (fun c4 => ?_) (fun c4 => ?_)
  · have e4 : s = "<" := V.str.inj (of_decide_eq_true c4)
    have er : relN s n m = .le (.plus n 1) m := if_pos e4
    rw [er] at h
    refine ⟨_, rfl, by show 3 ≤ sizeLine; decide, fun x nx => ⟨_, rfl, by show 3 ≤ sizeLine; decide, fun y ny => ?_⟩⟩
    have s5 := same_upd (o := .tup [.str "plus", v1, .int 1]) nx
    have s6 := same_upd (o := .tup [.str "le", .ref x, v2]) ny
    exact (h.but (Same.but (s5.trans s6))).put (a4.but (s5.trans s6)) (mkT ny (d3 (.str _) (mkT nx (d3 (.str _) dv1 (.int _))) (Dp.same s5 d2)))
  have e4 : ¬ s = "<" := fun e => c4 (decide_eq_true (congrArg V.str e))
  refine ⟨_, rfl, rfl, _, rfl, ?_⟩
  refine ite2 (fun c5 => ?_) (fun c5 => ?_)
  · have e5 : s = "=" := V.str.inj (of_decide_eq_true c5)
    have er : relN s n m = .conj (.le n m) (.le m n) := (if_neg e4).trans (if_pos e5)
    rw [er] at h
    refine ⟨_, rfl, _, rfl, by show 3 ≤ sizeLine; decide, fun x nx => ⟨_, rfl, _, rfl, by show 3 ≤ sizeLine; decide, fun y ny => ⟨by show 3 ≤ sizeLine; decide, fun z nz => ?_⟩⟩⟩
    have s5 := same_upd (o := .tup [.str "le", v1, v2]) nx
    have s6 := same_upd (o := .tup [.str "le", v2, v1]) ny
    have s7 := same_upd (o := .tup [.str "and", .ref x, .ref y]) nz
    have s57 := (s5.trans s6).trans s7
    exact (h.but (Same.but s57)).put (a4.but s57) (mkT nz (d3 (.str _) (Dp.same s6 (mkT nx (d3 (.str _) dv1 d2))) (mkT ny (d3 (.str _) (Dp.same s5 d2) (Dp.same s5 dv1)))))
  · have e5 : ¬ s = "=" := fun e => c5 (decide_eq_true (congrArg V.str e))
    have er : relN s n m = .le n m := (if_neg e4).trans (if_neg e5)
    rw [er] at h
    refine ⟨_, rfl, _, rfl, by show 3 ≤ sizeLine; decide, fun x nx => ?_⟩
    have s5 := same_upd (o := .tup [.str "le", v1, v2]) nx
    exact (h.but (Same.but s5)).put (a4.but s5) (mkT nx (d3 (.str _) dv1 d2))
theorem u_not (S : Kd → Nat → List Str → R) (lv : Nat) (r : List Str) : step S .unit lv ("not" :: r) = if 100 ≤ lv then .bad else (S .unit (lv + 1) r).one fun c r => .ok [.neg c] r := by rw [step_unit, if_pos rfl]
theorem u_yes (S : Kd → Nat → List Str → R) (lv : Nat) (r : List Str) : step S .unit lv ("yes" :: r) = .ok [.yes] r := by rw [step_unit, if_neg (sne (by decide +kernel)), if_pos rfl]
theorem u_flag (S : Kd → Nat → List Str → R) (lv : Nat) (r : List Str) : step S .unit lv ("?" :: r) = nam r fun x r => .ok [.flag x] r := by
  rw [step_unit, if_neg (sne (by decide +kernel)), if_neg (sne (by decide +kernel)), if_pos rfl]
theorem u_is (S : Kd → Nat → List Str → R) (lv : Nat) (r : List Str) : step S .unit lv ("is" :: r) = nam r fun k r => (S .inner lv r).one fun t r => .ok [.isO k t] r := by
  rw [step_unit, if_neg (sne (by decide +kernel)), if_neg (sne (by decide +kernel)), if_neg (sne (by decide +kernel)), if_pos rfl]
theorem u_br (S : Kd → Nat → List Str → R) (lv : Nat) (r : List Str) : step S .unit lv ("[" :: r) = if 100 ≤ lv then .bad else (S .cond (lv + 1) r).one fun c r => exp "]" r fun r => .ok [c] r := by
  rw [step_unit, if_neg (sne (by decide +kernel)), if_neg (sne (by decide +kernel)), if_neg (sne (by decide +kernel)), if_neg (sne (by decide +kernel)), if_pos rfl]
theorem u_else (S : Kd → Nat → List Str → R) (lv : Nat) (ts : List Str) (h1 : ¬ hdS ts = "not") (h2 : ¬ hdS ts = "yes") (h3 : ¬ hdS ts = "?") (h4 : ¬ hdS ts = "is") (h5 : ¬ hdS ts = "[") : step S .unit lv ts = S .comp lv ts := by
  cases ts with
  | nil => rfl
  | cons s r =>
    change ¬ s = "not" at h1
    change ¬ s = "yes" at h2
    change ¬ s = "?" at h3
    change ¬ s = "is" at h4
    change ¬ s = "[" at h5
    rw [step_unit, if_neg h1, if_neg h2, if_neg h3, if_neg h4, if_neg h5]
theorem nam_mis {ts : List Str} {k : Str → List Str → R} (h : ∀ s r, ts = s :: r → isName s = false) : nam ts k = .bad := by
  cases ts with
  | nil => rfl
  | cons s r => exact if_neg (by rw [h s r rfl]; decide)
theorem neV {s w : Str} (c : ¬ decide (V.str s = V.str w) = true) : ¬ s = w := fun e => c (decide_eq_true (congrArg V.str e))
theorem eqV {ts : List Str} {w : Str} (hw : decide (w = "") = false) (c : decide (V.str (hdS ts) = V.str w) = true) : ∃ r, ts = w :: r := hdS_ne hw (V.str.inj (of_decide_eq_true c))
theorem mf_unit (T : Tp w K mg) {f : Nat} (M_unit : Mf P w K mg base (f + 15) "unit" P_Parser_unit (spOne K f .unit)) (M_inner : Mf P w K mg base (f + 15) "inner" P_Parser_inner (spOne K f .inner))
    (M_condition : Mf P w K mg base (f + 15) "condition" P_Parser_condition (spOne K f .cond)) (M_compared : Mf P w K mg base (f + 15) "compared" P_Parser_compared (spOne K f .comp)) : Mf P w K mg base (f + 16) "unit" P_Parser_unit (spOne K (f + 1) .unit) := by
  have G_peek := ok_peek (P := P) (base := base) T
  have G_take := ok_take (P := P) (base := base) T
  have G_begin := ok_begin (P := P) (base := base) T
  have G_close := ok_close (P := P) (base := base) T
  have G_name := ok_name (P := P) (base := base) T
  refine mf_of T.f_Parser_unit T.cl T.m_unit sc_Parser_unit (fun _ F => b_Parser_unit F) len_one (fun cdv A outer s H vs Q E hf h => ?_)
  have hr : Room 4 _ := hf.room (by omega)
  obtain ⟨p, ts, lv, rfl, ha, h⟩ := h
  refine ⟨_, (pss_cons (ps_set (i := 1) sc_Parser_unit.nd rfl (Or.inl rfl) (pe_ml0 G_peek hr (by omega) pasE (pv 0)))
      (pss_cons (ps_if (pt_cmpR op_eq (pv 1) pe_str (nomark _)) (pss_cons (ps_expr (pe_ml G_begin hr (by omega) pasE (pv 0) (pa_cons pe_str pa_nil)))
      (pss_cons (ps_set (i := 2) sc_Parser_unit.nd rfl (Or.inl rfl) (pe_tup (pa_cons pe_str (pa_cons (pe_mf0 M_unit hf (by omega) pasE (pv 0)) pa_nil))))
      (pss_cons (ps_fldaug (pv 0) pe_int in_sub)
      (pss_one (ps_ret (pv 2)))))) pss_nil)
      (pss_cons (ps_if (pt_cmpR op_eq (pv 1) pe_str (nomark _)) (pss_cons (ps_expr (pe_ml0 G_take hr (by omega) pasE (pv 0)))
      (pss_one (ps_ret (C8.pe_gc rfl T.c_YES)))) pss_nil)
      (pss_cons (ps_if (PW.pt (pw_and (pt_cmpR op_eq (pv 1) pe_str (nomark _)) (pw_and1 (pt_val (pe_fld (pv 0) rfl))))) (pss_cons (ps_expr (pe_ml0 G_take hr (by omega) pasE (pv 0)))
      (pss_one (ps_ret (pe_tup (pa_cons pe_str (pa_cons (pe_ml0 G_name hr (by omega) pasE (pv 0)) pa_nil)))))) pss_nil)
      (pss_cons (ps_if (PW.pt (pw_and (pt_cmpR op_in_seq (pv 1) (C8.pe_gc rfl T.c_CASE_WORDS) (by rfl)) (pw_and1 (pt_val (pe_fld (pv 0) rfl))))) (pss_cons (ps_expr (pe_ml0 G_take hr (by omega) pasE (pv 0)))
      (pss_one (ps_ret (pe_tup (pa_cons (pv 1) (pa_cons (pe_ml0 G_name hr (by omega) pasE (pv 0)) pa_nil)))))) pss_nil)
      (pss_cons (ps_if (pt_cmpR op_eq (pv 1) pe_str (nomark _)) (pss_cons (ps_expr (pe_ml0 G_take hr (by omega) pasE (pv 0)))
      (pss_cons (ps_set (i := 3) sc_Parser_unit.nd rfl (Or.inl rfl) (pe_ml0 G_name hr (by omega) pasE (pv 0)))
      (pss_one (ps_ret (pe_tup (pa_cons pe_str (pa_cons (pv 3) (pa_cons (pe_mf0 M_inner hf (by omega) pasE (pv 0)) pa_nil)))))))) pss_nil)
      (pss_cons (ps_if (pt_cmpR op_eq (pv 1) pe_str (nomark _)) (pss_cons (ps_expr (pe_ml G_begin hr (by omega) pasE (pv 0) (pa_cons pe_str pa_nil)))
      (pss_cons (ps_set (i := 2) sc_Parser_unit.nd rfl (Or.inl rfl) (pe_mf0 M_condition hf (by omega) pasE (pv 0)))
      (pss_cons (ps_expr (pe_ml G_close hr (by omega) pasE (pv 0) (pa_cons pe_str pa_nil)))
      (pss_one (ps_ret (pv 2)))))) pss_nil)
      (pss_one (ps_ret (pe_mf0 M_compared hf (by omega) pasE (pv 0))))))))))), ?_⟩
  change Fit K p H lv Q E (step (KM.P f) .unit lv ts) at h
  refine c_peek ha rfl ?_
  refine ⟨_, rfl, rfl, _, rfl, ?_⟩
  refine ite2 (fun c1 => ?_) (fun c1 => ?_)
  · obtain ⟨q, rfl⟩ := eqV (by decide +kernel) c1
    rw [u_not] at h
    refine c_begin ha rfl (by decide +kernel) (fun r e l H1 b1 a1 => ?_) (fun e => h.bad (if_pos (e q rfl)))
    obtain ⟨_, rfl⟩ := List.cons.inj e
    rw [if_neg (show ¬ 100 ≤ lv by omega)] at h
    refine c_one a1 rfl (by decide +kernel) ((h.but b1).sub fun n r e v H2 b2 a2 d h => ?_)
    refine ⟨by show 2 ≤ sizeLine; decide, fun x nx => ?_⟩
    have s3 := same_upd (o := .tup [.str "not", v]) nx
    refine s_down T (a2.but s3) rfl fun H4 b4 a4 => ⟨_, rfl, ?_⟩
    exact (h.but ((Same.but s3).trans b4)).put a4 (dbut (mkT nx (d2 (.str _) d)) b4 (a2.but s3).safe)
  have n1 := neV c1
  refine ⟨_, rfl, rfl, _, rfl, ?_⟩
  refine ite2 (fun c1 => ?_) (fun c1 => ?_)
  · obtain ⟨q, rfl⟩ := eqV (by decide +kernel) c1
    rw [u_yes] at h
    refine c_take ha rfl fun H2 b2 a2 => ?_
    exact (h.but b2).put a2 (.tup (T.yes H2) (.cons (.str _) .nil))
  have n2 := neV c1
  refine ⟨_, rfl, rfl, _, rfl, ?_⟩
  refine ite2 (fun c1 => ?_) (fun c1 => iteF ?_)
  · obtain ⟨q, rfl⟩ := eqV (by decide +kernel) c1
    rw [u_flag] at h
    refine f_flags T ha rfl ⟨_, rfl, iteT ?_⟩
    refine c_take ha rfl fun H2 b2 a2 => ?_
    refine c_name a2 rfl (fun s r e en H3 b3 a3 => ?_) (fun e => (h.bad (nam_mis e)).of b2)
    obtain rfl : q = s :: r := e
    refine ⟨by show 2 ≤ sizeLine; decide, fun x nx => ?_⟩
    rw [nam_go en] at h
    have s4 := same_upd (o := .tup [.str "flag", .str s]) nx
    exact (h.but ((b2.trans b3).trans (Same.but s4))).put (a3.but s4) (mkT nx (d2 (.str _) (.str _)))
  have n3 := neV c1
  refine ⟨_, rfl, _, _, rfl, .inr (T.caseW H), rfl, flat_strs (["called", "missed", "filed"] : List Str), _, rfl, ?_⟩
  refine ite2 (fun c1 => f_cases T ha rfl ⟨_, rfl, iteF ?_⟩) (fun c1 => iteF ?_)
  all_goals
    refine ⟨_, rfl, rfl, _, rfl, ?_⟩
    refine ite2 (fun c1 => ?_) (fun c1 => ?_)
    · obtain ⟨q, rfl⟩ := eqV (by decide +kernel) c1
      rw [u_is] at h
      refine c_take ha rfl fun H2 b2 a2 => ?_
      refine c_name a2 rfl (fun s r e en H3 b3 a3 => ?_) (fun e => (h.bad (nam_mis e)).of b2)
      obtain rfl : q = s :: r := e
      rw [nam_go en] at h
      refine ⟨_, rfl, ?_⟩
      refine c_one a3 rfl (by decide +kernel) ((h.but (b2.trans b3)).sub fun n r e v H4 b4 a4 d h => ?_)
      refine ⟨by show 3 ≤ sizeLine; decide, fun x nx => ?_⟩
      have s5 := same_upd (o := .tup [.str "is", .str s, v]) nx
      exact (h.but (Same.but s5)).put (a4.but s5) (mkT nx (d3 (.str _) (.str _) d))
    have n4 := neV c1
    refine ⟨_, rfl, rfl, _, rfl, ?_⟩
    refine ite2 (fun c1 => ?_) (fun c1 => ?_)
    · obtain ⟨q, rfl⟩ := eqV (by decide +kernel) c1
      rw [u_br] at h
      refine c_begin ha rfl (by decide +kernel) (fun r e l H1 b1 a1 => ?_) (fun e => h.bad (if_pos (e q rfl)))
      obtain ⟨_, rfl⟩ := List.cons.inj e
      rw [if_neg (show ¬ 100 ≤ lv by omega)] at h
      refine c_one a1 rfl (by decide +kernel) ((h.but b1).sub fun n r e v H2 b2 a2 d h => ?_)
      refine c_close a2 rfl (by decide +kernel) (fun r e H3 b3 a3 => ?_) (fun e => h.bad (exp_mis e))
      rw [exp_hit e] at h
      exact ⟨_, rfl, (h.but b3).put a3 (dbut d b3 a2.safe)⟩
    have n5 := neV c1
    rw [u_else _ _ _ n1 n2 n3 n4 n5] at h
    exact c_one ha rfl (by decide +kernel) h
theorem a_lp (S : Kd → Nat → List Str → R) (lv : Nat) (r : List Str) : step S .atom lv ("(" :: r) = S .inner lv ("(" :: r) := by rw [step_atom, if_pos rfl]
theorem a_at (S : Kd → Nat → List Str → R) (lv : Nat) (r : List Str) : step S .atom lv ("@" :: r) = nums r fun n r => .ok [.num n] r := by rw [step_atom, if_neg (sne (by decide +kernel)), if_pos rfl]
theorem a_nx (S : Kd → Nat → List Str → R) (lv : Nat) {s : Str} (r : List Str) (h : s ∈ (["next", "prev"] : List Str)) : step S .atom lv (s :: r) = nam r fun k r => (S .inner lv r).one fun t r => .ok [.near (decide (s = "next")) k t] r := by
  have h' : s = "next" ∨ s = "prev" := by simpa using h
  rw [step_atom, if_neg (by rcases h' with rfl | rfl <;> exact sne (by decide +kernel)), if_neg (by rcases h' with rfl | rfl <;> exact sne (by decide +kernel)), if_pos h']
theorem a_op (S : Kd → Nat → List Str → R) (lv : Nat) (r : List Str) : step S .atom lv ("open" :: r) = nam r fun k r => nums r fun n r => if n = 0 ∨ n > 6 ∨ n < -6 then .bad else (S .inner lv r).one fun t r => .ok [.nth k t n] r := by
  rw [step_atom, if_neg (sne (by decide +kernel)), if_neg (sne (by decide +kernel)), if_neg (by decide +kernel), if_pos rfl]
theorem a_lt (S : Kd → Nat → List Str → R) (lv : Nat) {s : Str} (r : List Str) (h : s ∈ (["later", "earlier"] : List Str)) : step S .atom lv (s :: r) = beg "(" lv r fun r => (S .two (lv + 1) r).duo fun t u r => .ok [.pick (decide (s = "later")) t u] r := by
  have h' : s = "later" ∨ s = "earlier" := by simpa using h
  rw [step_atom, if_neg (by rcases h' with rfl | rfl <;> exact sne (by decide +kernel)), if_neg (by rcases h' with rfl | rfl <;> exact sne (by decide +kernel)), if_neg (by rcases h' with rfl | rfl <;> decide +kernel),
    if_neg (by rcases h' with rfl | rfl <;> exact sne (by decide +kernel)), if_pos h']
theorem a_if (S : Kd → Nat → List Str → R) (lv : Nat) (r : List Str) : step S .atom lv ("if" :: r) = beg "(" lv r fun r => (S .cond (lv + 1) r).one fun c r => exp "," r fun r => (S .two (lv + 1) r).duo fun t u r => .ok [.ite c t u] r := by
  rw [step_atom, if_neg (sne (by decide +kernel)), if_neg (sne (by decide +kernel)), if_neg (by decide +kernel), if_neg (sne (by decide +kernel)), if_neg (by decide +kernel), if_pos rfl]
theorem a_else (S : Kd → Nat → List Str → R) (lv : Nat) (ts : List Str) (h1 : ¬ hdS ts = "(") (h2 : ¬ hdS ts = "@") (h3 : hdS ts ∉ (["next", "prev"] : List Str)) (h4 : ¬ hdS ts = "open") (h5 : hdS ts ∉ (["later", "earlier"] : List Str)) (h6 : ¬ hdS ts = "if") :
    step S .atom lv ts = if isName (hdS ts) = true then .ok [.day (hdS ts)] ts.tail else .bad := by
  cases ts with
  | nil => exact (if_neg (by decide +kernel)).symm
  | cons s r =>
    change ¬ s = "(" at h1
    change ¬ s = "@" at h2
    change s ∉ _ at h3
    change ¬ s = "open" at h4
    change s ∉ _ at h5
    change ¬ s = "if" at h6
    rw [step_atom, if_neg h1, if_neg h2, if_neg (fun e => h3 (by simpa using e)), if_neg h4, if_neg (fun e => h5 (by simpa using e)), if_neg h6]
    rfl
theorem nums_hit {ts r : List Str} {n : Int} {k : Int → List Str → R} (h : numR ts = some (n, r)) : nums ts k = k n r := by rw [nums_R, h]
theorem nums_mis {ts : List Str} {k : Int → List Str → R} (h : numR ts = none) : nums ts k = .bad := by rw [nums_R, h]
theorem mf_atom (T : Tp w K mg) {f : Nat} (M_inner : Mf P w K mg base (f + 15) "inner" P_Parser_inner (spOne K f .inner)) (M_two_terms : Mf P w K mg base (f + 15) "two_terms" P_Parser_two_terms (spTwo K f))
    (M_condition : Mf P w K mg base (f + 15) "condition" P_Parser_condition (spOne K f .cond)) : Mf P w K mg base (f + 16) "atom" P_Parser_atom (spOne K (f + 1) .atom) := by
  have G_peek := ok_peek (P := P) (base := base) T
  have G_take := ok_take (P := P) (base := base) T
  have G_need := ok_need (P := P) (base := base) T
  have G_begin := ok_begin (P := P) (base := base) T
  have G_name := ok_name (P := P) (base := base) T
  have G_number := ok_number (P := P) (base := base) T
  have G_is_name := ok_is_name (P := P) (base := base) T
  refine mf_of T.f_Parser_atom T.cl T.m_atom sc_Parser_atom (fun _ F => b_Parser_atom F) len_one (fun cdv A outer s H vs Q E hf h => ?_)
  have hr : Room 4 _ := hf.room (by omega)
  obtain ⟨p, ts, lv, rfl, ha, h⟩ := h
  refine ⟨_, (pss_cons (ps_set (i := 1) sc_Parser_atom.nd rfl (Or.inl rfl) (pe_ml0 G_peek hr (by omega) pasE (pv 0)))
      (pss_cons (ps_if (pt_cmpR op_eq (pv 1) pe_str (nomark _)) (pss_one (ps_ret (pe_mf0 M_inner hf (by omega) pasE (pv 0)))) pss_nil)
      (pss_cons (ps_expr (pe_ml0 G_take hr (by omega) pasE (pv 0)))
      (pss_cons (ps_if (pt_cmpR op_eq (pv 1) pe_str (nomark _)) (pss_one (ps_ret (pe_tup (pa_cons pe_str (pa_cons (pe_ml0 G_number hr (by omega) pasE (pv 0)) pa_nil))))) pss_nil)
      (pss_cons (ps_if (pt_cmpR op_in_seq (pv 1) (pe_tup (pa_cons pe_str (pa_cons pe_str pa_nil))) (by rfl)) (pss_cons (ps_set (i := 2) sc_Parser_atom.nd rfl (Or.inl rfl) (pe_ml0 G_name hr (by omega) pasE (pv 0)))
      (pss_one (ps_ret (pe_tup (pa_cons (pv 1) (pa_cons (pv 2) (pa_cons (pe_mf0 M_inner hf (by omega) pasE (pv 0)) pa_nil))))))) pss_nil)
      (pss_cons (ps_if (pt_cmpR op_eq (pv 1) pe_str (nomark _)) (pss_cons (ps_set (i := 2) sc_Parser_atom.nd rfl (Or.inl rfl) (pe_ml0 G_name hr (by omega) pasE (pv 0)))
      (pss_cons (ps_set (i := 3) sc_Parser_atom.nd rfl (Or.inl rfl) (pe_ml0 G_number hr (by omega) pasE (pv 0)))
      (pss_cons (ps_if (PW.pt (pw_or (pt_cmpR op_eq (pv 3) pe_int (nomark _)) (pw_or (pt_cmpR op_gt (pv 3) (C8.pe_gc rfl T.c_MAX_COUNT) (nomark _)) (pw_or1 (pt_cmpR op_lt (pv 3) (pe_un un_neg (C8.pe_gc rfl T.c_MAX_COUNT)) (nomark _)))))) (pss_one (ps_bad T hr (by omega) rfl (takes_of rfl rfl rfl rfl) pas0)) pss_nil)
      (pss_one (ps_ret (pe_tup (pa_cons pe_str (pa_cons (pv 2) (pa_cons (pe_mf0 M_inner hf (by omega) pasE (pv 0)) (pa_cons (pv 3) pa_nil)))))))))) pss_nil)
      (pss_cons (ps_if (pt_cmpR op_in_seq (pv 1) (pe_tup (pa_cons pe_str (pa_cons pe_str pa_nil))) (by rfl)) (pss_cons (ps_expr (pe_ml G_begin hr (by omega) pasE (pv 0) (pa_cons pe_str pa_nil)))
      (pss_one (ps_ret (pe_tup (pa_cons (pv 1) (StX.pa_star (pe_mf0 M_two_terms hf (by omega) pasE (pv 0)) pa_nil)))))) pss_nil)
      (pss_cons (ps_if (PW.pt (pw_and (pt_cmpR op_eq (pv 1) pe_str (nomark _)) (pw_and1 (pt_val (pe_fld (pv 0) rfl))))) (pss_one (ps_ret (pe_tup (pa_cons (pv 1) (pa_cons (pe_ml0 G_name hr (by omega) pasE (pv 0)) pa_nil))))) pss_nil)
      (pss_cons (ps_if (pt_cmpR op_eq (pv 1) pe_str (nomark _)) (pss_cons (ps_expr (pe_ml G_begin hr (by omega) pasE (pv 0) (pa_cons pe_str pa_nil)))
      (pss_cons (ps_set (i := 4) sc_Parser_atom.nd rfl (Or.inl rfl) (pe_mf0 M_condition hf (by omega) pasE (pv 0)))
      (pss_cons (ps_expr (pe_ml G_need hr (by omega) pasE (pv 0) (pa_cons pe_str pa_nil)))
      (pss_one (ps_ret (pe_tup (pa_cons pe_str (pa_cons (pv 4) (StX.pa_star (pe_mf0 M_two_terms hf (by omega) pasE (pv 0)) pa_nil))))))))) pss_nil)
      (pss_cons (ps_if (pt_not (pt_val (pe_cl G_is_name hr (by omega) pasE (pa_cons (pv 1) pa_nil)))) (pss_one (ps_bad T hr (by omega) rfl (takes_of rfl rfl rfl rfl) pas0)) pss_nil)
      (pss_one (ps_ret (pe_tup (pa_cons pe_str (pa_cons (pv 1) pa_nil))))))))))))))), ?_⟩
  change Fit K p H lv Q E (step (KM.P f) .atom lv ts) at h
  refine c_peek ha rfl ?_
  refine ⟨_, rfl, rfl, _, rfl, ?_⟩
  refine ite2 (fun c1 => ?_) (fun c1 => ?_)
  · obtain ⟨q, rfl⟩ := eqV (by decide +kernel) c1
    rw [a_lp] at h
    exact c_one ha rfl (by decide +kernel) h
  have n1 := neV c1
  refine c_take ha rfl fun H1 b1 a1 => ?_
  refine ⟨_, rfl, rfl, _, rfl, ?_⟩
  refine ite2 (fun c1 => ?_) (fun c1 => ?_)
  · obtain ⟨q, rfl⟩ := eqV (by decide +kernel) c1
    rw [a_at] at h
    refine c_number a1 rfl (fun n r e H2 b2 a2 => ?_) (fun e => (h.bad (nums_mis e)).of b1)
    refine ⟨by show 2 ≤ sizeLine; decide, fun x nx => ?_⟩
    rw [nums_hit (ts := q) e] at h
    have s3 := same_upd (o := .tup [.str "at", .int n]) nx
    exact (h.but ((b1.trans b2).trans (Same.but s3))).put (a2.but s3) (mkT nx (d2 (.str _) (.int _)))
  have n2 := neV c1
  have h := h.but b1
  refine ⟨_, rfl, by show 2 ≤ sizeLine; decide, fun b nb => ?_⟩
  have s2 := same_upd (o := .tup [.str "next", .str "prev"]) nb
  have a2 := a1.but s2
  have h := h.but (Same.but s2)
  refine ⟨b, _, rfl, seq_tup upd_same, rfl, rfl, _, rfl, ?_⟩
  refine ite2 (fun c => ?_) (fun c => ?_)
  · have c' : hdS ts ∈ (["next", "prev"] : List Str) := inL c
    cases ts with
    | nil => exact absurd c' (by decide +kernel)
    | cons s q =>
    have cs : s ∈ (["next", "prev"] : List Str) := c'
    rw [a_nx _ _ _ cs] at h
    refine c_name a2 rfl (fun k r e en H3 b3 a3 => ?_) (fun e => h.bad (nam_mis e))
    obtain rfl : q = k :: r := e
    rw [nam_go en] at h
    refine ⟨_, rfl, _, rfl, ?_⟩
    refine c_one a3 rfl (by decide +kernel) ((h.but b3).sub fun n r e v H4 b4 a4 d h => ?_)
    refine ⟨by show 3 ≤ sizeLine; decide, fun x nx => ?_⟩
    have s5 := same_upd (o := .tup [.str s, .str k, v]) nx
    have es : s = if decide (s = "next") = true then ("next" : Str) else ("prev" : Str) := by
      have h' : s = "next" ∨ s = "prev" := by simpa using cs
      rcases h' with rfl | rfl <;> decide +kernel
    refine (h.but (Same.but s5)).put (a4.but s5) (mkT nx (d3 ?_ (.str _) d))
    exact Eq.subst (motive := fun z => Dp K H4 (.str s) (.str z)) es (.str s)
  have n3 : hdS ts ∉ (["next", "prev"] : List Str) := ninL c
  refine ⟨_, rfl, rfl, _, rfl, ?_⟩
  refine ite2 (fun c1 => ?_) (fun c1 => ?_)
  · obtain ⟨q, rfl⟩ := eqV (by decide +kernel) c1
    rw [a_op] at h
    refine c_name a2 rfl (fun k r e en H3 b3 a3 => ?_) (fun e => h.bad (nam_mis e))
    obtain rfl : q = k :: r := e
    rw [nam_go en] at h
    refine c_number a3 rfl (fun n r e H4 b4 a4 => ?_) (fun e => (h.bad (nums_mis e)).of b3)
    rw [nums_hit e] at h
    have h := h.but (b3.trans b4)
    refine ⟨_, rfl, rfl, _, rfl, ?_⟩
    refine ite2 (fun c => ?_) (fun c => ?_)
    · refine iteT ((h.bad (if_pos (.inl ?_))).bad)
      exact V.int.inj (of_decide_eq_true c)
    have c1 : ¬ n = 0 := fun e => c (decide_eq_true (congrArg V.int e))
    refine ⟨_, rfl, _, _, rfl, rfl, _, rfl, ?_⟩
    refine ite2 (fun c => ?_) (fun c => ?_)
    · exact iteT ((h.bad (if_pos (.inr (.inl (of_decide_eq_true c))))).bad)
    have c2 : ¬ n > 6 := of_decide_eq_false (Bool.eq_false_iff.mpr c)
    refine ⟨_, rfl, _, rfl, _, _, rfl, rfl, _, rfl, ?_⟩
    refine ite2 (fun c => ?_) (fun c => ?_)
    · exact (h.bad (if_pos (.inr (.inr (of_decide_eq_true c))))).bad
    have c3 : ¬ n < -6 := of_decide_eq_false (Bool.eq_false_iff.mpr c)
    rw [if_neg (by omega)] at h
    refine ⟨_, rfl, ?_⟩
    refine c_one a4 rfl (by decide +kernel) (h.sub fun t r e v H5 b5 a5 d h => ⟨_, rfl, ?_⟩)
    refine ⟨by show 4 ≤ sizeLine; decide, fun x nx => ?_⟩
    have s5 := same_upd (o := .tup [.str "nth", .str k, v, .int n]) nx
    exact (h.but (Same.but s5)).put (a5.but s5) (mkT nx (d4 (.str _) (.str _) d (.int _)))
  have n4 := neV c1
  refine ⟨_, rfl, by show 2 ≤ sizeLine; decide, fun b nb => ?_⟩
  have s3 := same_upd (o := .tup [.str "later", .str "earlier"]) nb
  have a3 := a2.but s3
  have h := h.but (Same.but s3)
  refine ⟨b, _, rfl, seq_tup upd_same, rfl, rfl, _, rfl, ?_⟩
  refine ite2 (fun c => ?_) (fun c => ?_)
  · have c' : hdS ts ∈ (["later", "earlier"] : List Str) := inL c
    cases ts with
    | nil => exact absurd c' (by decide +kernel)
    | cons s q =>
    have cs : s ∈ (["later", "earlier"] : List Str) := c'
    rw [a_lt _ _ _ cs] at h
    refine c_begin a3 rfl (by decide +kernel) (fun r e l H4 b4 a4 => ?_) (fun e => h.bad (beg_mis e))
    rw [beg_hit (ts := q) e l] at h
    refine ⟨_, rfl, ?_⟩
    refine c_two a4 rfl ((h.but b4).duo fun n m r e a u v H5 b5 a5 ht d1 d2' h => ?_)
    refine ⟨_, _, rfl, .inl (.inl (.inl ht)), ?_⟩
    refine ⟨by show 3 ≤ sizeLine; decide, fun x nx => ?_⟩
    have s5 := same_upd (o := .tup [.str s, u, v]) nx
    have es : s = if decide (s = "later") = true then ("later" : Str) else ("earlier" : Str) := by
      have h' : s = "later" ∨ s = "earlier" := by simpa using cs
      rcases h' with rfl | rfl <;> decide +kernel
    refine (h.but (Same.but s5)).put (a5.but s5) (mkT nx (d3 ?_ d1 d2'))
    exact Eq.subst (motive := fun z => Dp K H5 (.str s) (.str z)) es (.str s)
  have n5 : hdS ts ∉ (["later", "earlier"] : List Str) := ninL c
  refine ⟨_, rfl, rfl, _, rfl, ?_⟩
  refine ite2 (fun c1 => f_cases T a3 rfl ⟨_, rfl, iteF ?_⟩) (fun c1 => iteF ?_)
  all_goals
    refine ⟨_, rfl, rfl, _, rfl, ?_⟩
    refine ite2 (fun c1 => ?_) (fun c1 => ?_)
    · obtain ⟨q, rfl⟩ := eqV (by decide +kernel) c1
      rw [a_if] at h
      refine c_begin a3 rfl (by decide +kernel) (fun r e l H4 b4 a4 => ?_) (fun e => h.bad (beg_mis e))
      rw [beg_hit (ts := q) e l] at h
      refine c_one a4 rfl (by decide +kernel) ((h.but b4).sub fun n r e vc H5 b5 a5 d h => ?_)
      refine c_need a5 rfl (by decide +kernel) (fun r e H6 b6 a6 => ?_) (fun e => h.bad (exp_mis e))
      rw [exp_hit e] at h
      have d := dbut d b6 a5.safe
      refine ⟨_, rfl, ?_⟩
      refine c_two a6 rfl ((h.but b6).duo fun n m r e a u v H7 b7 a7 ht d1 d2' h => ?_)
      have d := dbut d b7 a6.safe
      refine ⟨_, _, rfl, .inl (.inl (.inl ht)), ?_⟩
      refine ⟨by show 4 ≤ sizeLine; decide, fun x nx => ?_⟩
      have s5 := same_upd (o := .tup [.str "if", vc, u, v]) nx
      exact (h.but (Same.but s5)).put (a7.but s5) (mkT nx (d4 (.str _) d d1 d2'))
    have n6 := neV c1
    rw [a_else _ _ _ n1 n2 n3 n4 n5 n6] at h
    refine ⟨_, rfl, _, rfl, len_hdS ha.len, fun H4 s4 => ⟨_, rfl, ?_⟩⟩
    have h := h.but (Same.but s4)
    refine ite2 (fun c => ?_) (fun c => ?_)
    · have c' : isName (hdS ts) = false := by simpa using c
      exact (h.bad (if_neg (by rw [c']; decide))).bad
    · have c' : isName (hdS ts) = true := by simpa using c
      rw [if_pos c'] at h
      refine ⟨_, rfl, ?_⟩
      refine ⟨by show 2 ≤ sizeLine; decide, fun x nx => ?_⟩
      have s5 := same_upd (o := .tup [.str "day", .str (hdS ts)]) nx
      exact (h.but (Same.but s5)).put ((a3.but s4).but s5) (mkT nx (d2 (.str _) (.str _)))
structure Grp (P : Program) (w : World) (K : PySem.W.Frag) (mg : Str → Option Value) (base : Heap) (f n : Nat) : Prop where
  term : Mf P w K mg base n "term" P_Parser_term (spOne K f .term)
  inner : Mf P w K mg base n "inner" P_Parser_inner (spOne K f .inner)
  two : Mf P w K mg base n "two_terms" P_Parser_two_terms (spTwo K f)
  atom : Mf P w K mg base n "atom" P_Parser_atom (spOne K f .atom)
  cond : Mf P w K mg base n "condition" P_Parser_condition (spOne K f .cond)
  both : Mf P w K mg base n "both" P_Parser_both (spOne K f .both)
  unit : Mf P w K mg base n "unit" P_Parser_unit (spOne K f .unit)
  comp : Mf P w K mg base n "compared" P_Parser_compared (spOne K f .comp)
theorem no_fuel {kd : Kd} {vs : List V} {H : Hp} {Q : VK} {E : XK} (h : spOne K 0 kd vs H Q E) : False := by
  obtain ⟨p, ts, lv, _, _, h⟩ := h
  exact h.nt rfl
theorem no_fuel2 {vs : List V} {H : Hp} {Q : VK} {E : XK} (h : spTwo K 0 vs H Q E) : False := by
  obtain ⟨p, ts, lv, _, _, h⟩ := h
  exact h.nt rfl
theorem grp (T : Tp w K mg) : ∀ f : Nat, Grp P w K mg base f (f + 15)
  | 0 => by
    refine ⟨?_, ?_, ?_, ?_, ?_, ?_, ?_, ?_⟩
    · exact mf_of (n := 14) T.f_Parser_term T.cl T.m_term sc_Parser_term (fun _ F => b_Parser_term F) (fun vs H Q E h => (no_fuel h).elim) (fun cdv A outer s H vs Q E hf h => (no_fuel h).elim)
    · exact mf_of (n := 14) T.f_Parser_inner T.cl T.m_inner sc_Parser_inner (fun _ F => b_Parser_inner F) (fun vs H Q E h => (no_fuel h).elim) (fun cdv A outer s H vs Q E hf h => (no_fuel h).elim)
    · exact mf_of (n := 14) T.f_Parser_two_terms T.cl T.m_two_terms sc_Parser_two_terms (fun _ F => b_Parser_two_terms F) (fun vs H Q E h => (no_fuel2 h).elim) (fun cdv A outer s H vs Q E hf h => (no_fuel2 h).elim)
    · exact mf_of (n := 14) T.f_Parser_atom T.cl T.m_atom sc_Parser_atom (fun _ F => b_Parser_atom F) (fun vs H Q E h => (no_fuel h).elim) (fun cdv A outer s H vs Q E hf h => (no_fuel h).elim)
    · exact mf_of (n := 14) T.f_Parser_condition T.cl T.m_condition sc_Parser_condition (fun _ F => b_Parser_condition F) (fun vs H Q E h => (no_fuel h).elim) (fun cdv A outer s H vs Q E hf h => (no_fuel h).elim)
    · exact mf_of (n := 14) T.f_Parser_both T.cl T.m_both sc_Parser_both (fun _ F => b_Parser_both F) (fun vs H Q E h => (no_fuel h).elim) (fun cdv A outer s H vs Q E hf h => (no_fuel h).elim)
    · exact mf_of (n := 14) T.f_Parser_unit T.cl T.m_unit sc_Parser_unit (fun _ F => b_Parser_unit F) (fun vs H Q E h => (no_fuel h).elim) (fun cdv A outer s H vs Q E hf h => (no_fuel h).elim)
    · exact mf_of (n := 14) T.f_Parser_compared T.cl T.m_compared sc_Parser_compared (fun _ F => b_Parser_compared F) (fun vs H Q E h => (no_fuel h).elim) (fun cdv A outer s H vs Q E hf h => (no_fuel h).elim)
  | f + 1 => by
    have g := grp T f
    exact ⟨mf_term T g.atom, mf_inner T g.term, mf_two T g.term, mf_atom T g.inner g.two g.cond, mf_condition T g.both, mf_both T g.unit, mf_unit T g.unit g.inner g.cond g.comp, mf_compared T g.term⟩
end
end KT

namespace KT
open PySem PySem.Spec
open PyProof.Rows L2 KM
def tTab : List (Str × He.Dv) := [("day", .str "d"), ("at", .str "n"), ("plus", .str "tn"), ("next", .str "kt"), ("prev", .str "kt"), ("nth", .str "ktm"), ("later", .str "tt"), ("earlier", .str "tt"), ("if", .str "ctt")]
def cTab : List (Str × He.Dv) := [("le", .str "tt"), ("is", .str "kt"), ("flag", .str "f"), ("yes", .str ""), ("not", .str "c"), ("and", .str "cc"), ("or", .str "cc")]
def tW : List Str := ["day", "at", "plus", "next", "prev", "nth", "later", "earlier", "if"]
def cW : List Str := ["le", "is", "flag", "yes", "not", "and", "or"]
/-- what signs_of is asked -/
inductive SgA : Str → Str → V → Prop where
  | t {w : Str} (z : Str) (h : (w, He.Dv.str z) ∈ tTab) : SgA w "t" (.str z)
  | n {w : Str} (h : w ∈ cW) : SgA w "t" .non
  | c {w : Str} (z : Str) (h : (w, He.Dv.str z) ∈ cTab) : SgA w "c" (.str z)
def spSigns : Sp := fun vs H Q _ => ∃ (w k : Str) (v : V), vs = [.str w, .str k, .bl true] ∧ SgA w k v ∧ Q v H
section
variable {P : Program} {w : World} {K : PySem.W.Frag} {mg : Str → Option Value} {base : Heap}
theorem tTab_w {x : Str} {z : He.Dv} (h : (x, z) ∈ tTab) : x ∈ tW := by
  have e : tTab.map (·.1) = tW := by decide +kernel
  rw [← e]; exact List.mem_map_of_mem h
theorem cTab_w {x : Str} {z : He.Dv} (h : (x, z) ∈ cTab) : x ∈ cW := by
  have e : cTab.map (·.1) = cW := by decide +kernel
  rw [← e]; exact List.mem_map_of_mem h
theorem ok_signs_of (T : Tp w K mg) : Cl P w K mg base 1 "signs_of" P_signs_of spSigns := by
  refine cl_of T.f_signs_of T.g_signs_of sc_signs_of (fun _ F => b_signs_of F) (fun vs H Q E h => ?_) (fun cdv A outer s H vs Q E hr h => ?_)
  · obtain ⟨x, k, v, rfl, _⟩ := h
    rfl
  obtain ⟨x, k, v, rfl, hs, q⟩ := h
  obtain ⟨e1, n1, hTERMS⟩ := T.k_TERMS
  obtain ⟨e2, n2, hCONDITIONS⟩ := T.k_CONDITIONS
  obtain ⟨e3, n3, hCASE_TERMS⟩ := T.k_CASE_TERMS
  obtain ⟨e4, n4, hCASE_CONDITIONS⟩ := T.k_CASE_CONDITIONS
  refine ⟨_, (pss_cons (ps_if (pt_cmpR op_eq (pv 1) pe_str (nomark _)) (pss_cons (ps_if (PW.pt (pw_and (pt_val (pv 2)) (pw_and1 (pt_cmpR (op_in_kd hCASE_TERMS) (pv 0) (C8.pe_gc rfl T.c_CASE_TERMS) (by rfl))))) (pss_one (ps_ret (pe_ix ix_kdict (C8.pe_gc rfl T.c_CASE_TERMS) (pv 0) (fun _ _ => rfl)))) pss_nil)
      (pss_cons (ps_if (pt_cmpR (op_in_kd hTERMS) (pv 0) (C8.pe_gc rfl T.c_TERMS) (by rfl)) (pss_one (ps_ret (pe_ix ix_kdict (C8.pe_gc rfl T.c_TERMS) (pv 0) (fun _ _ => rfl)))) pss_nil)
      (pss_one (ps_ret pe_non)))) pss_nil)
      (pss_cons (ps_if (PW.pt (pw_and (pt_val (pv 2)) (pw_and1 (pt_cmpR (op_in_kd hCASE_CONDITIONS) (pv 0) (C8.pe_gc rfl T.c_CASE_CONDITIONS) (by rfl))))) (pss_one (ps_ret (pe_ix ix_kdict (C8.pe_gc rfl T.c_CASE_CONDITIONS) (pv 0) (fun _ _ => rfl)))) pss_nil)
      (pss_cons (ps_if (pt_cmpR (op_in_kd hCONDITIONS) (pv 0) (C8.pe_gc rfl T.c_CONDITIONS) (by rfl)) (pss_one (ps_ret (pe_ix ix_kdict (C8.pe_gc rfl T.c_CONDITIONS) (pv 0) (fun _ _ => rfl)))) pss_nil)
      (pss_one (ps_ret pe_non))))), ?_⟩
  have tc : ∀ {y}, y ∈ tW → y ∈ tW ++ cW := fun h => List.mem_append_left _ h
  have cc : ∀ {y}, y ∈ cW → y ∈ tW ++ cW := fun h => List.mem_append_right _ h
  cases hs with
  | t z h =>
    obtain ⟨u, hu, ru⟩ := T.v_TERMS h
    refine ⟨_, rfl, rfl, _, rfl, iteT ?_⟩
    refine ⟨_, rfl, _, rfl, iteT ?_⟩
    refine ⟨_, rfl, _, none, rfl, rfl, T.n_CASE_TERMS (tc (tTab_w h)), _, rfl, iteF ?_⟩
    refine ⟨_, rfl, _, some u, rfl, rfl, hu, _, rfl, iteT ?_⟩
    exact ⟨_, rfl, _, _, _, rfl, rfl, ⟨e1, n1, u, hTERMS.at_, hTERMS.lit, hu, ru⟩, q⟩
  | n h =>
    refine ⟨_, rfl, rfl, _, rfl, iteT ?_⟩
    refine ⟨_, rfl, _, rfl, iteT ?_⟩
    refine ⟨_, rfl, _, none, rfl, rfl, T.n_CASE_TERMS (cc h), _, rfl, iteF ?_⟩
    refine ⟨_, rfl, _, none, rfl, rfl, T.n_TERMS h, _, rfl, iteF ?_⟩
    exact q
  | c z h =>
    obtain ⟨u, hu, ru⟩ := T.v_CONDITIONS h
    refine ⟨_, rfl, rfl, _, rfl, ?_⟩
    have e0 : decide (V.str "c" = V.str "t") = false := by decide +kernel
    rw [e0]
    refine iteF ?_
    refine ⟨_, rfl, _, rfl, iteT ?_⟩
    refine ⟨_, rfl, _, none, rfl, rfl, T.n_CASE_CONDITIONS (cc (cTab_w h)), _, rfl, iteF ?_⟩
    refine ⟨_, rfl, _, some u, rfl, rfl, hu, _, rfl, iteT ?_⟩
    exact ⟨_, rfl, _, _, _, rfl, rfl, ⟨e2, n2, u, hCONDITIONS.at_, hCONDITIONS.lit, hu, ru⟩, q⟩
/-! ### the parts of a node -/
def wd : Nd → Str
  | .day _ => "day" | .num _ => "at" | .plus _ _ => "plus" | .near b _ _ => if b = true then "next" else "prev" | .nth _ _ _ => "nth"
  | .pick b _ _ => if b = true then "later" else "earlier" | .ite _ _ _ => "if" | .le _ _ => "le" | .isO _ _ => "is" | .flag _ => "flag" | .yes => "yes" | .neg _ => "not" | .conj _ _ => "and" | .disj _ _ => "or"
def ags : Nd → List PyData
  | .day x => [.str x] | .num n => [.int n] | .plus t n => [enc t, .int n] | .near _ k t => [.str k, enc t] | .nth k t n => [.str k, enc t, .int n]
  | .pick _ t u => [enc t, enc u] | .ite c t u => [enc c, enc t, enc u] | .le t u => [enc t, enc u] | .isO k t => [.str k, enc t] | .flag x => [.str x] | .yes => [] | .neg c => [enc c] | .conj c d => [enc c, enc d] | .disj c d => [enc c, enc d]
theorem enc_eq (n : Nd) : enc n = .tuple (.str (wd n) :: ags n) := by cases n <;> rfl
def sgs : Nd → Str
  | .day _ => "d" | .num _ => "n" | .plus _ _ => "tn" | .near _ _ _ => "kt" | .nth _ _ _ => "ktm" | .pick _ _ _ => "tt" | .ite _ _ _ => "ctt" | .le _ _ => "tt" | .isO _ _ => "kt" | .flag _ => "f" | .yes => "" | .neg _ => "c" | .conj _ _ => "cc" | .disj _ _ => "cc"
def kds : Nd → List Nd
  | .day _ => [] | .num _ => [] | .plus t _ => [t] | .near _ _ t => [t] | .nth _ t _ => [t] | .pick _ t u => [t, u] | .ite c t u => [c, t, u] | .le t u => [t, u] | .isO _ t => [t] | .flag _ => [] | .yes => [] | .neg c => [c] | .conj c d => [c, d] | .disj c d => [c, d]
theorem sg_of (n : Nd) : SgA (wd n) "t" (.str (sgs n)) ∨ (SgA (wd n) "t" .non ∧ SgA (wd n) "c" (.str (sgs n))) := by
  cases n with
  | near b k t => cases b <;> exact .inl (.t _ (by simp [tTab, wd, sgs]))
  | pick b t u => cases b <;> exact .inl (.t _ (by simp [tTab, wd, sgs]))
  | day | num | plus | nth | ite => exact .inl (.t _ (by simp [tTab, wd, sgs]))
  | _ => exact .inr ⟨.n (by simp [cW, wd]), .c _ (by simp [cTab, wd, sgs])⟩
theorem dp_tup {H : Hp} {v : V} {ds : List PyData} (h : Dp K H v (.tuple ds)) : ∃ a xs, v = .ref a ∧ SqT K H a xs ∧ DpAll K H xs ds := by
  cases h with
  | tup h1 h2 => exact ⟨_, _, rfl, h1, h2⟩
theorem dp_all {H : Hp} {xs : List V} {d : PyData} {ds : List PyData} (h : DpAll K H xs (d :: ds)) : ∃ x r, xs = x :: r ∧ Dp K H x d ∧ DpAll K H r ds := by
  cases h with
  | cons h1 h2 => exact ⟨_, _, rfl, h1, h2⟩
theorem dp_nil {H : Hp} {xs : List V} (h : DpAll K H xs []) : xs = [] := by cases h; rfl
theorem dp_str {H : Hp} {v : V} {x : Str} (h : Dp K H v (.str x)) : v = .str x := by cases h; rfl
theorem dp_int {H : Hp} {v : V} {x : Int} (h : Dp K H v (.int x)) : v = .int x := by cases h; rfl
def spForm (K : PySem.W.Frag) : Sp := fun vs H Q _ => ∃ (v : V) (n : Nd), vs = [v] ∧ Dp K H v (enc n) ∧ Q (.str (sgs n)) H
theorem ok_form_of (T : Tp w K mg) : Cl P w K mg base 2 "form_of" P_form_of (spForm K) := by
  have G_signs_of := ok_signs_of (P := P) (base := base) T
  refine cl_of T.f_form_of T.g_form_of sc_form_of (fun _ F => b_form_of F) (fun vs H Q E h => ?_) (fun cdv A outer s H vs Q E hr h => ?_)
  · obtain ⟨v, n, rfl, _⟩ := h
    rfl
  obtain ⟨v, n, rfl, d, q⟩ := h
  rw [enc_eq] at d
  obtain ⟨a, xs, rfl, hq, d⟩ := dp_tup d
  obtain ⟨x, r, rfl, d0, _⟩ := dp_all d
  obtain rfl := dp_str d0
  refine ⟨_, (pss_cons (ps_set (i := 1) sc_form_of.nd rfl (Or.inl rfl) (pe_cl G_signs_of hr (by omega) pasE (pa_cons (pe_ix ix_tup (pv 0) pe_int (fun _ _ => rfl)) (pa_cons pe_str (pa_cons pe_bl pa_nil)))))
      (pss_cons (ps_if (pt_cmpR op_isN (pv 1) pe_non (nomark _)) (pss_one (ps_set (i := 1) sc_form_of.nd rfl (Or.inl rfl) (pe_cl G_signs_of hr (by omega) pasE (pa_cons (pe_ix ix_tup (pv 0) pe_int (fun _ _ => rfl)) (pa_cons pe_str (pa_cons pe_bl pa_nil)))))) pss_nil)
      (pss_one (ps_ret (pv 1))))), ?_⟩
  have at0 : atI (V.str (wd n) :: r) 0 = some (V.str (wd n)) := atI_nat (j := 0) rfl
  refine ⟨_, rfl, a, _, 0, _, rfl, rfl, hq, at0, ?_⟩
  rcases sg_of n with g | ⟨g1, g2⟩
  · exact ⟨_, _, _, rfl, g, _, rfl, rfl, _, rfl, iteF ⟨_, rfl, q⟩⟩
  · refine ⟨_, _, _, rfl, g1, _, rfl, rfl, _, rfl, iteT ?_⟩
    exact ⟨_, rfl, a, _, 0, _, rfl, rfl, hq, at0, _, _, _, rfl, g2, _, rfl, q⟩
def sgc : Nd → List Nat
  | .day _ => [100] | .num _ => [110] | .plus _ _ => [116, 110] | .near _ _ _ => [107, 116] | .nth _ _ _ => [107, 116, 109] | .pick _ _ _ => [116, 116] | .ite _ _ _ => [99, 116, 116] | .le _ _ => [116, 116] | .isO _ _ => [107, 116] | .flag _ => [102] | .yes => [] | .neg _ => [99] | .conj _ _ => [99, 99] | .disj _ _ => [99, 99]
theorem sgc_eq (n : Nd) : tl (sgs n) = sgc n := by
  cases n <;> simp only [sgs, sgc] <;> decide +kernel
theorem ags_len (n : Nd) : (ags n).length = (sgc n).length := by cases n <;> rfl
def pick (cs : List Nat) (r : List V) (i : Nat) : Option V := match cs[i]?, r[i]? with
  | some c, some x => if c = 116 ∨ c = 99 then some x else none
  | _, _ => none
theorem dp_len {H : Hp} : ∀ {xs : List V} {ds : List PyData}, DpAll K H xs ds → xs.length = ds.length
  | _, _, .nil => rfl
  | _, _, .cons _ h => congrArg (· + 1) (dp_len h)
theorem pick_all (n : Nd) {H : Hp} {r : List V} (d : DpAll K H r (ags n)) : DpAll K H ((List.range (sgc n).length).filterMap (pick (sgc n) r)) ((kds n).map enc) := by
  cases n with
  | day x => obtain ⟨x, r, rfl, e1, d⟩ := dp_all d; exact .nil
  | num x => obtain ⟨x, r, rfl, e1, d⟩ := dp_all d; exact .nil
  | plus x => obtain ⟨x, r, rfl, e1, d⟩ := dp_all d; obtain ⟨y, r, rfl, e2, d⟩ := dp_all d; exact .cons e1 .nil
  | near b k t => obtain ⟨x, r, rfl, e1, d⟩ := dp_all d; obtain ⟨y, r, rfl, e2, d⟩ := dp_all d; exact .cons e2 .nil
  | nth k t n => obtain ⟨x, r, rfl, e1, d⟩ := dp_all d; obtain ⟨y, r, rfl, e2, d⟩ := dp_all d; obtain ⟨z, r, rfl, e3, d⟩ := dp_all d; exact .cons e2 .nil
  | pick b t u => obtain ⟨x, r, rfl, e1, d⟩ := dp_all d; obtain ⟨y, r, rfl, e2, d⟩ := dp_all d; exact .cons e1 (.cons e2 .nil)
  | ite c t u => obtain ⟨x, r, rfl, e1, d⟩ := dp_all d; obtain ⟨y, r, rfl, e2, d⟩ := dp_all d; obtain ⟨z, r, rfl, e3, d⟩ := dp_all d; exact .cons e1 (.cons e2 (.cons e3 .nil))
  | le t u => obtain ⟨x, r, rfl, e1, d⟩ := dp_all d; obtain ⟨y, r, rfl, e2, d⟩ := dp_all d; exact .cons e1 (.cons e2 .nil)
  | isO k t => obtain ⟨x, r, rfl, e1, d⟩ := dp_all d; obtain ⟨y, r, rfl, e2, d⟩ := dp_all d; exact .cons e2 .nil
  | flag x => obtain ⟨x, r, rfl, e1, d⟩ := dp_all d; exact .nil
  | yes => exact .nil
  | neg c => obtain ⟨x, r, rfl, e1, d⟩ := dp_all d; exact .cons e1 .nil
  | conj t u => obtain ⟨x, r, rfl, e1, d⟩ := dp_all d; obtain ⟨y, r, rfl, e2, d⟩ := dp_all d; exact .cons e1 (.cons e2 .nil)
  | disj t u => obtain ⟨x, r, rfl, e1, d⟩ := dp_all d; obtain ⟨y, r, rfl, e2, d⟩ := dp_all d; exact .cons e1 (.cons e2 .nil)
theorem ix_tupK {X : Cx} {K : PySem.W.Frag} (h : X.K = K := by rfl) : IxR X (rIxT K) := h ▸ ix_tup
theorem ix_listK {X : Cx} {K : PySem.W.Frag} (h : X.K = K := by rfl) : IxR X (rIxL K) := h ▸ ix_list
/-- a new list of data -/
def spParts (K : PySem.W.Frag) : Sp := fun vs H Q _ => ∃ (v : V) (n : Nd), vs = [v] ∧ Dp K H v (enc n) ∧ ∀ D H' xs, H D = none → Same H H' → H' D = some (.lst xs) → DpAll K H' xs ((kds n).map enc) → Q (.ref D) H'
theorem mem_tc (c : Nat) : decide (c ∈ tl ("tc" : Str)) = decide (c = 116 ∨ c = 99) := by
  have e : tl ("tc" : Str) = [116, 99] := by decide +kernel
  rw [e]
  simp
theorem ok_parts_of (T : Tp w K mg) : Cl P w K mg base 3 "parts_of" P_parts_of (spParts K) := by
  have G_form_of := ok_form_of (P := P) (base := base) T
  refine cl_of T.f_parts_of T.g_parts_of sc_parts_of (fun _ F => b_parts_of F) (fun vs H Q E h => ?_) (fun cdv A outer s H vs Q E hr h => ?_)
  · obtain ⟨v, n, rfl, _⟩ := h
    rfl
  obtain ⟨v, n, rfl, d, k⟩ := h
  refine ⟨_, (pss_cons (ps_set (i := 1) sc_parts_of.nd rfl (Or.inr rfl) (pe_cl G_form_of hr (by omega) pasE (pa_cons (pv 0) pa_nil)))
      (pss_one (ps_ret (pe_lc (own := [("at", 2)]) (g := gName 2) rfl sc_parts_of.nd (pi_range1 rfl T.z_range (pa_cons (pe_callB call_len_str rfl T.z_len PySem.boot_len (pa_cons (pv 1) pa_nil)) pa_nil)) (blkOk_by (own := [("at", 2)]) (N := N_parts_of) (sc := defScope s_parts_of) (by decide +kernel)) (fun _ _ _ _ _ => (pg_name (i := 2) sc_parts_of.nd rfl (Or.inl rfl))) (fun _ _ _ _ _ => (pts_one (pt_cmpR op_in_sign (pe_ix ix_str (pv 1) (pv 2) (fun _ _ => rfl)) pe_str (by rfl)))) (fun _ _ _ _ _ => (pe_ix (ix_tupK (K := K)) (pv 0) (pe_op op_add (pv 2) pe_int) (fun _ _ => rfl))))))), ?_⟩
  refine ⟨_, rfl, _, _, rfl, d, ?_⟩
  rw [enc_eq] at d
  obtain ⟨a, xs, rfl, hq, d⟩ := dp_tup d
  obtain ⟨x, r, rfl, d0, d⟩ := dp_all d
  have hl : (sgs n).length = (sgc n).length := by rw [len_tl, sgc_eq]
  have hn : (sgc n).length ≤ 3 := by cases n <;> simp [sgc]
  have hr1 : r.length = (sgc n).length := (dp_len d).trans (ags_len n)
  have h4 : 4 ≤ sizeLine := by decide
  refine ⟨_, rfl, _, rfl, by omega, _, rfl, by omega, by omega, ?_⟩
  rw [hl, Int.toNat_natCast]
  intro D hD
  refine ⟨fun i m H' => m = (sgc n).length - i ∧ i ≤ (sgc n).length ∧ Same H H' ∧ H' D = some (.lst ((List.range i).filterMap (pick (sgc n) r))), ⟨_, rfl, Nat.zero_le _, same_upd hD, upd_same⟩, ?_⟩
  rintro i m H' ⟨rfl, hi, hs, hd⟩
  by_cases lt : i < (sgc n).length
  · refine .inr ⟨lt, fun H' => Same H H' ∧ H' D = some (.lst ((List.range (i + 1)).filterMap (pick (sgc n) r))), fun H' ⟨h1, h2⟩ => ⟨_, by omega, rfl, lt, h1, h2⟩, fun x H2 y => ?_⟩
    obtain ⟨rfl, rfl⟩ := y
    refine ⟨rfl, ?_⟩
    obtain ⟨c, ec⟩ : ∃ c, (sgc n)[i]? = some c := ⟨_, List.getElem?_eq_getElem lt⟩
    obtain ⟨y, ey⟩ : ∃ y, r[i]? = some y := ⟨_, List.getElem?_eq_getElem (by omega)⟩
    have ea : atI (sgs n).cps.toList ((i : Nat) : Int) = some c := by
      have : atI (tl (sgs n)) ((i : Nat) : Int) = some c := atI_nat (by rw [sgc_eq]; exact ec)
      exact this
    have eb : atI (x :: r) ((i + 1 : Nat) : Int) = some y := atI_nat ey
    have hp : (List.range (i + 1)).filterMap (pick (sgc n) r) = (List.range i).filterMap (pick (sgc n) r) ++ (if c = 116 ∨ c = 99 then [y] else []) := by
      rw [List.range_succ, List.filterMap_append]
      congr 1
      have : pick (sgc n) r i = if c = 116 ∨ c = 99 then some y else none := by unfold pick; rw [ec, ey]
      rw [List.filterMap_cons, this]
      by_cases q : c = 116 ∨ c = 99
      · rw [if_pos q, if_pos q]; rfl
      · rw [if_neg q, if_neg q]; rfl
    have hlen : ((List.range i).filterMap (pick (sgc n) r)).length ≤ i := by
      have := List.length_filterMap_le (pick (sgc n) r) (List.range i)
      rw [List.length_range] at this
      exact this
    rw [show (0 : Int) + (i : Int) = (i : Int) by omega]
    refine ⟨_, rfl, _, rfl, _, _, c, rfl, rfl, by omega, ea, c, _, rfl, rfl, _, rfl, ?_⟩
    rw [mem_tc]
    refine ite2 (fun c1 => ?_) (fun c1 => ?_)
    · have c1' : c = 116 ∨ c = 99 := of_decide_eq_true c1
      rw [if_pos c1'] at hp
      have e1 : (i : Int) + 1 = ((i + 1 : Nat) : Int) := by omega
      refine ⟨_, rfl, _, rfl, _, _, rfl, rfl, a, _, _, y, rfl, rfl, same_sqt hs hq, by rw [e1]; exact eb, _, hd, by omega, fun b o q => ?_, ?_⟩
      · rw [upd_ne (ne_of_none q hD)]; exact hs b o q
      · rw [upd_same, hp]
    · have c1' : ¬ (c = 116 ∨ c = 99) := of_decide_eq_false (Bool.eq_false_iff.mpr c1)
      rw [if_neg c1', List.append_nil] at hp
      exact ⟨hs, by rw [hp]; exact hd⟩
  · have e : i = (sgc n).length := by omega
    subst e
    exact .inl ⟨Nat.le_refl _, k D H' _ hD hs hd (DpAll.same hs (pick_all n d))⟩
/-! ### data without lists -/
mutual
inductive NoL : PyData → Prop where
  | str (x : Str) : NoL (.str x)
  | int (i : Int) : NoL (.int i)
  | tup {ds : List PyData} (h : NoLs ds) : NoL (.tuple ds)
inductive NoLs : List PyData → Prop where
  | nil : NoLs []
  | cons {d : PyData} {ds : List PyData} (h : NoL d) (k : NoLs ds) : NoLs (d :: ds)
end
theorem enc_nol (n : Nd) : NoL (enc n) := by
  induction n <;> unfold enc <;> repeat (first | assumption | exact .nil | exact .str _ | exact .int _ | refine .tup ?_ | refine .cons ?_ ?_)
/-- what is no list stays -/
def KeepT (H H' : Hp) : Prop := ∀ b o, H b = some o → (∀ xs, o ≠ .lst xs) → H' b = some o
theorem KeepT.sqt {H H' : Hp} {a : Addr} {xs : List V} (e : KeepT H H') (h : SqT K H a xs) : SqT K H' a xs := by
  rcases h with (h | ⟨o, h⟩) | h
  · exact .inl (.inl (e _ _ h fun _ => HO.noConfusion))
  · exact .inl (.inr ⟨o, e _ _ h fun _ => HO.noConfusion⟩)
  · exact .inr h
mutual
theorem dkeep {H H' : Hp} (e : KeepT H H') : ∀ {v : V} {d : PyData}, Dp K H v d → NoL d → Dp K H' v d
  | _, _, .non, n => by cases n
  | _, _, .bl b, n => by cases n
  | _, _, .int i, _ => .int i
  | _, _, .str x, _ => .str x
  | _, _, .lst h1 h2, n => by cases n
  | _, _, .tup h1 h2, .tup n => .tup (e.sqt h1) (dkeeps e h2 n)
theorem dkeeps {H H' : Hp} (e : KeepT H H') : ∀ {vs : List V} {ds : List PyData}, DpAll K H vs ds → NoLs ds → DpAll K H' vs ds
  | _, _, .nil, _ => .nil
  | _, _, .cons h1 h2, .cons n k => .cons (dkeep e h1 n) (dkeeps e h2 k)
end
theorem keepT_upd {H : Hp} {l : Addr} {xs : List V} {o : HO} (h : H l = some (.lst xs)) : KeepT H (upd H l o) := fun b u q n => by
  rw [upd_ne fun z => by rw [z, h] at q; exact n xs (Option.some.inj q).symm]
  exact q
theorem But.keepT {H H' : Hp} {l : Addr} {xs : List V} (b : But l H H') (h : H l = some (.lst xs)) : KeepT H H' := fun a u q n => b a u q fun z => by
  rw [z, h] at q; exact n xs (Option.some.inj q).symm
/-! ### measure -/
def pnd (x : Nd × Nat) : PyData := .tuple [enc x.1, .int (x.2 : Int)]
def sumS : List (Nd × Nat) → Nat
  | [] => 0
  | x :: r => size x.1 + sumS r
def maxD : List (Nd × Nat) → Nat
  | [] => 0
  | x :: r => max (depth x.1 + x.2) (maxD r)
theorem sumS_app (a b : List (Nd × Nat)) : sumS (a ++ b) = sumS a + sumS b := by
  induction a with
  | nil => simp [sumS]
  | cons x r ih => simp only [List.cons_append, sumS, ih]; omega
theorem maxD_app (a b : List (Nd × Nat)) : maxD (a ++ b) = max (maxD a) (maxD b) := by
  induction a with
  | nil => simp [maxD]
  | cons x r ih => simp only [List.cons_append, maxD, ih]; omega
theorem sum_kds (n : Nd) (d : Nat) : sumS ((kds n).map fun k => (k, d)) + 1 = size n := by
  cases n <;> simp only [kds, List.map_cons, List.map_nil, sumS, size] <;> omega
theorem max_kds (n : Nd) (d : Nat) : max (maxD ((kds n).map fun k => (k, d + 1))) (d + 1) = depth n + d := by
  cases n <;> simp only [kds, List.map_cons, List.map_nil, maxD, depth] <;> omega
theorem len_sum (L : List (Nd × Nat)) : L.length ≤ sumS L := by
  induction L with
  | nil => exact Nat.le_refl _
  | cons x r ih => have := size_pos x.1; simp only [List.length_cons, sumS]; omega
theorem pnds_nol (L : List (Nd × Nat)) : NoLs (L.map pnd) := by
  induction L with
  | nil => exact .nil
  | cons x r ih => exact .cons (.tup (.cons (enc_nol _) (.cons (.int _) .nil))) ih
theorem dp_app {H : Hp} : ∀ {xs ys : List V} {ds es : List PyData}, DpAll K H xs ds → DpAll K H ys es → DpAll K H (xs ++ ys) (ds ++ es)
  | _, _, _, _, .nil, k => k
  | _, _, _, _, .cons h r, k => .cons h (dp_app r k)
theorem dp_snoc {H : Hp} {d : PyData} : ∀ {ds : List PyData} {ws : List V}, DpAll K H ws (ds ++ [d]) → ∃ vs v, ws = vs ++ [v] ∧ DpAll K H vs ds ∧ Dp K H v d
  | [], ws, h => by
    obtain ⟨x, r, rfl, h1, h2⟩ := dp_all h
    obtain rfl := dp_nil h2
    exact ⟨[], x, rfl, .nil, h1⟩
  | e :: ds, ws, h => by
    obtain ⟨x, r, rfl, h1, h2⟩ := dp_all h
    obtain ⟨vs, v, rfl, h3, h4⟩ := dp_snoc h2
    exact ⟨x :: vs, v, rfl, .cons h1 h3, h4⟩
theorem dp_get {H : Hp} : ∀ {xs : List V} {ds : List PyData} {i : Nat} {x : V} {d : PyData}, DpAll K H xs ds → xs[i]? = some x → ds[i]? = some d → Dp K H x d
  | _, _, 0, _, _, .cons h _, e1, e2 => by
    obtain rfl := Option.some.inj e1
    obtain rfl := Option.some.inj e2
    exact h
  | _, _, i + 1, _, _, .cons _ r, e1, e2 => dp_get (i := i) r e1 e2
def spMeas (K : PySem.W.Frag) : Sp := fun vs H Q _ => ∃ (v : V) (n : Nd), vs = [v] ∧ Dp K H v (enc n) ∧ size n ≤ 1000000 ∧ ∀ a H', Same H H' → H' a = some (.tup [.int (size n : Int), .int (depth n : Int)]) → Q (.ref a) H'
theorem ok_measure (T : Tp w K mg) : Cl P w K mg base 4 "measure" P_measure (spMeas K) := by
  have G_parts_of := ok_parts_of (P := P) (base := base) T
  refine cl_of T.f_measure T.g_measure sc_measure (fun _ F => b_measure F) (fun vs H Q E h => ?_) (fun cdv A outer s H vs Q E hr h => ?_)
  · obtain ⟨v, n, rfl, _⟩ := h
    rfl
  obtain ⟨v, n, rfl, d, hz, k⟩ := h
  refine ⟨_, (pss_cons (ps_set (i := 1) sc_measure.nd rfl (Or.inl rfl) pe_int)
      (pss_cons (ps_set (i := 2) sc_measure.nd rfl (Or.inl rfl) pe_int)
      (pss_cons (ps_set (i := 3) sc_measure.nd rfl (Or.inl rfl) (pe_lst (pa_cons (pe_tup (pa_cons (pv 0) (pa_cons pe_int pa_nil))) pa_nil)))
      (pss_cons (ps_while pOwn (pt_cmpR op_gt (pe_callB call_len_seq rfl T.z_len PySem.boot_len (pa_cons (pv 3) pa_nil)) pe_int (nomark _)) (pss_cons (ps_asg (pe_bm0 PySem.F.plainAttrs_list PySem.F.slot_list_pop PySem.F.type_list_pop mt_pop (pv 3)) (pg_tup rfl (pgs_cons (pg_name (i := 4) sc_measure.nd rfl (Or.inl rfl)) (pgs_cons (pg_name (i := 5) sc_measure.nd rfl (Or.inr rfl)) pgs_nil))))
      (pss_cons (ps_aug (i := 1) sc_measure.nd rfl (Or.inl rfl) pe_int ip_add)
      (pss_cons (ps_set (i := 2) sc_measure.nd rfl (Or.inl rfl) (pe_callB (call_max2 rfl) rfl T.z_max (by decide +kernel) (pa_cons (pv 2) (pa_cons (pv 5) pa_nil))))
      (pss_one (ps_expr (pe_bm PySem.F.plainAttrs_list PySem.F.slot_list_extend PySem.F.type_list_extend mt_extend (pv 3) (pa_cons (pe_lc (own := [("part", 6)]) (g := gName 6) rfl sc_measure.nd (pi_list (pe_cl G_parts_of hr (by omega) pasE (pa_cons (pv 4) pa_nil))) (blkOk_by (own := [("part", 6)]) (N := N_measure) (sc := defScope s_measure) (by decide +kernel)) (fun _ _ _ _ _ => (pg_name (i := 6) sc_measure.nd rfl (Or.inl rfl))) (fun _ _ _ _ _ => pts_nil) (fun _ _ _ _ _ => (pe_tup (pa_cons (pv 6) (pa_cons (pe_op op_add (pv 5) pe_int) pa_nil))))) pa_nil))))))))
      (pss_one (ps_ret (pe_tup (pa_cons (pv 1) (pa_cons (pv 2) pa_nil))))))))), ?_⟩
  have h6 : 1000000 ≤ sizeLine := by decide
  refine ⟨_, rfl, by show 2 ≤ sizeLine; decide, fun a na => ⟨by show 1 ≤ sizeLine; decide, fun l nl => ?_⟩⟩
  have s1 := same_upd (o := .tup [v, .int 1]) na
  have lH : H l = none := by
    cases e : H l with
    | none => rfl
    | some o => rw [s1 _ _ e] at nl; cases nl
  refine ⟨fun m σ H' => ∃ (sz dp : Nat) (ws : List V) (L : List (Nd × Nat)) (x4 x5 x6 : Option V), σ = [some v, some (.int (sz : Int)), some (.int (dp : Int)), some (.ref l), x4, x5, x6] ∧ Same H H' ∧ H' l = some (.lst ws) ∧ DpAll K H' ws (L.map pnd) ∧
    sz + sumS L = size n ∧ max (dp + 1) (maxD L) = depth n + 1 ∧ m = sumS L, ⟨_, 0, 0, [.ref a], [(n, 1)], none, none, none, rfl, ?_, upd_same, ?_, ?_, ?_, rfl⟩, ?_⟩
  · exact s1.trans (same_upd nl)
  · exact DpAll.same (same_upd nl) (.cons (mkT na (d2 d (.int _))) .nil)
  · simp [sumS]
  · simp only [maxD]; omega
  rintro m σ H' ⟨sz, dp, ws, L, x4, x5, x6, rfl, hs, hw, hd, e1, e2, rfl⟩
  have hwl : ws.length = L.length := (dp_len hd).trans (List.length_map _)
  refine ⟨_, rfl, l, ws, rfl, .inl (SqL.of hw), _, _, rfl, rfl, _, rfl, ?_⟩
  refine ite2 (fun c => ?_) (fun c => ?_)
  · have c' : (0 : Int) < (ws.length : Int) := of_decide_eq_true c
    obtain ⟨L', x, rfl⟩ : ∃ L' x, L = L' ++ [x] := ⟨L.dropLast, L.getLast (fun e => by rw [e, List.length_nil] at hwl; omega), (List.dropLast_concat_getLast _).symm⟩
    obtain ⟨o, dd⟩ := x
    rw [List.map_append] at hd
    obtain ⟨ws', u, rfl, hd1, hd2⟩ := dp_snoc hd
    obtain ⟨b, xs, rfl, hb, hx1⟩ := dp_tup hd2
    obtain ⟨y, r, rfl, g1, hx2⟩ := dp_all hx1
    obtain ⟨y2, r2, rfl, g2, hx3⟩ := dp_all hx2
    obtain rfl := dp_nil hx3
    obtain rfl := dp_int g2
    rw [sumS_app] at e1
    rw [maxD_app] at e2
    simp only [sumS, maxD] at e1 e2
    refine ⟨_, fun σ' H' z => z, ?_⟩
    refine ⟨_, rfl, .inl ⟨rfl, _, SqL.of hw⟩, l, _, .ref b, rfl, rfl, hw, by simp, ?_⟩
    have e3 : (ws' ++ [V.ref b]).dropLast = ws' := by simp
    rw [e3]
    have hw1 : (upd H' l (.lst ws')) l = some (.lst ws') := upd_same
    have hs1 : Same H (upd H' l (.lst ws')) := fun a o q => by rw [upd_ne (ne_of_none q lH)]; exact hs a o q
    have kt1 : KeepT H' (upd H' l (.lst ws')) := keepT_upd hw
    have hb1 := kt1.sqt hb
    have g1' := dkeep kt1 g1 (enc_nol o)
    have hd1' := dkeeps kt1 hd1 (pnds_nol L')
    generalize upd H' l (.lst ws') = H1 at *
    refine ⟨b, _, rfl, hb1, rfl, _, _, rfl, _, _, rfl, rfl, ?_⟩
    refine ⟨_, rfl, _, _, rfl, rfl, ?_⟩
    refine ⟨_, rfl, _, rfl, _, _, rfl, ?_⟩
    refine ⟨_, rfl, .inl ⟨rfl, _, SqL.of hw1⟩, ?_⟩
    refine ⟨_, rfl, y, o, rfl, g1', fun D0 H2 xs nD0 s2 hD0 hxs => ?_⟩
    refine ⟨D0, rfl, ⟨xs, SqL.of hD0⟩, fun D nD => ?_⟩
    have hxl : xs.length = (kds o).length := (dp_len hxs).trans (List.length_map _)
    have le1 : sumS L' + size o ≤ 1000000 := by omega
    have ll := len_sum L'
    have hkl := len_sum ((kds o).map fun k => (k, dd + 1))
    have hks := sum_kds o (dd + 1)
    have hkm := max_kds o dd
    rw [List.length_map] at hkl
    have hwl2 : ws'.length = L'.length := (dp_len hd1).trans (List.length_map _)
    have hD2 : D0 ≠ D := ne_of_none hD0 nD
    have hl2 := s2 _ _ hw1
    have lD : l ≠ D := ne_of_none hl2 nD
    refine ⟨fun i m H3 => m = xs.length - i ∧ i ≤ xs.length ∧ Same H2 H3 ∧ ∃ acc, H3 D = some (.lst acc) ∧ DpAll K H3 acc ((((kds o).take i).map fun k => (k, dd + 1)).map pnd), ⟨_, rfl, Nat.zero_le _, same_upd nD, [], upd_same, .nil⟩, ?_⟩
    rintro i m H3 ⟨rfl, hi, s3, acc, ha, hac⟩
    have hD03 := s3 _ _ hD0
    have hacl : acc.length ≤ (kds o).length := by
      have := dp_len hac
      simp only [List.length_map, List.length_take] at this
      omega
    by_cases lt : i < xs.length
    · refine .inr ⟨⟨xs, _, SqL.of hD03, List.getElem?_eq_getElem lt⟩, fun H4 => Same H2 H4 ∧ ∃ acc, H4 D = some (.lst acc) ∧ DpAll K H4 acc ((((kds o).take (i + 1)).map fun k => (k, dd + 1)).map pnd), fun H4 ⟨g1, g2⟩ => ⟨_, by omega, rfl, lt, g1, g2⟩, fun x H4 yl => ?_⟩
      obtain ⟨rfl, hx⟩ := yl
      have ex := hx xs (SqL.of hD03)
      have lk : i < (kds o).length := by omega
      have ek : (kds o)[i]? = some ((kds o)[i]) := List.getElem?_eq_getElem lk
      have dx : Dp K H2 x (enc ((kds o)[i])) := dp_get hxs ex (by rw [List.getElem?_map, ek]; rfl)
      refine ⟨set_wipe, ?_⟩
      refine ⟨_, rfl, _, rfl, _, _, rfl, rfl, by show 2 ≤ sizeLine; decide, fun q nq => ⟨acc, ?_, by omega, ?_, ?_⟩⟩
      · rw [upd_ne (ne_of_none ha nq)]; exact ha
      · intro b' u' q'
        have q2 := s3 _ _ q'
        rw [upd_ne (ne_of_none q' nD), upd_ne (ne_of_none q2 nq)]
        exact q2
      · refine ⟨_, upd_same, ?_⟩
        have sq := same_upd (o := .tup [x, .int ((dd : Int) + 1)]) nq
        have kD : KeepT (upd H4 q (.tup [x, .int ((dd : Int) + 1)])) (upd (upd H4 q (.tup [x, .int ((dd : Int) + 1)])) D (.lst (acc ++ [.ref q]))) := keepT_upd (xs := acc) (by rw [upd_ne (ne_of_none ha nq)]; exact ha)
        have el : (((kds o).take (i + 1)).map fun k => (k, dd + 1)).map pnd = ((((kds o).take i).map fun k => (k, dd + 1)).map pnd) ++ [pnd ((kds o)[i], dd + 1)] := by
          rw [List.take_add_one, ek, Option.toList_some, List.map_append, List.map_append]; rfl
        have ed : ((dd : Int) + 1) = ((dd + 1 : Nat) : Int) := by omega
        rw [el]
        refine dp_app (dkeeps kD (DpAll.same sq hac) (pnds_nol _)) (.cons ?_ .nil)
        refine dkeep kD ?_ (.tup (.cons (enc_nol _) (.cons (.int _) .nil)))
        have := mkT nq (d2 (Dp.same s3 dx) (.int ((dd : Int) + 1)))
        rw [ed] at this ⊢
        exact this
    · refine .inl ⟨⟨xs, SqL.of hD03, by omega⟩, ?_⟩
      have ei : i = (kds o).length := by omega
      subst ei
      rw [List.take_length] at hac
      have hl3 := s3 _ _ hl2
      refine ⟨l, D, ws', acc, rfl, rfl, hl3, ha, by omega, ?_⟩
      have kl : KeepT H3 (upd H3 l (.lst (ws' ++ acc))) := keepT_upd hl3
      refine ⟨sumS L' + sumS ((kds o).map fun k => (k, dd + 1)), by rw [sumS_app]; simp only [sumS]; omega, sz + 1, max dp dd, ws' ++ acc, L' ++ (kds o).map fun k => (k, dd + 1), some y, some (.int (dd : Int)), x6, ?_, ?_, upd_same, ?_, ?_, ?_, ?_⟩
      · have em : (if (dd : Int) > (dp : Int) then (dd : Int) else (dp : Int)) = ((max dp dd : Nat) : Int) := by split <;> omega
        show ([some v, some (.int ((sz : Int) + 1)), some (.int (if (dd : Int) > (dp : Int) then (dd : Int) else (dp : Int))), some (.ref l), some y, some (.int (dd : Int)), x6] : L2.St) = _
        rw [em, show ((sz : Int) + 1) = ((sz + 1 : Nat) : Int) by omega]
      · intro b' u' q'
        rw [upd_ne (ne_of_none q' lH)]
        exact s3 _ _ (s2 _ _ (hs1 _ _ q'))
      · rw [List.map_append]
        exact dp_app (dkeeps kl (DpAll.same s3 (DpAll.same s2 hd1')) (pnds_nol _)) (dkeeps kl hac (pnds_nol _))
      · rw [sumS_app]; omega
      · rw [maxD_app]; omega
      · rw [sumS_app]
  · have c' : ¬ (0 : Int) < (ws.length : Int) := of_decide_eq_false (Bool.eq_false_iff.mpr c)
    have e0 : L = [] := List.length_eq_zero_iff.mp (by omega)
    subst e0
    simp only [sumS, maxD] at e1 e2
    refine ⟨_, rfl, _, rfl, by show 2 ≤ sizeLine; decide, fun a na => ?_⟩
    refine k a _ (hs.trans (same_upd na)) ?_
    rw [upd_same, show sz = size n by omega, show dp = depth n by omega]
theorem ps_tl {X : Cx} {W : WX} {m : Str} {j : Nat} {p p2 pos pos2 : Pos} (T : Tp X.w X.K X.mg) (hc : X.calm = true) (tk : Takes X W) (hg : Gl X "TooLarge" := by rfl) :
    PS X (.Raise (some (.Call (.Name "TooLarge" p) [.Constant (.str m) j p2] [] pos)) none pos2) (fun _ σ H => W (.ref (TL_ X.K)) none σ H) := by
  obtain ⟨h1, h2, h3, h4⟩ := T.excTL
  exact ps_raise hc tk (pmk_own PySem.F.excBase_ValueError h1 T.g_TooLarge h2 (raises_own h3 h4) hg)
def spCheck (K : PySem.W.Frag) : Sp := fun vs H Q E => ∃ (v : V) (n : Nd), vs = [v] ∧ Dp K H v (enc n) ∧ size n ≤ 1000000 ∧ (size n ≤ 400 → depth n ≤ 40 → ∀ H', Same H H' → Q .non H') ∧ (¬ (size n ≤ 400 ∧ depth n ≤ 40) → ∀ H', Same H H' → E (.ref (TL_ K)) none H')
theorem ok_check_size (T : Tp w K mg) : Cl P w K mg base 5 "check_size" P_check_size (spCheck K) := by
  have G_measure := ok_measure (P := P) (base := base) T
  refine cl_of T.f_check_size T.g_check_size sc_check_size (fun _ F => b_check_size F) (fun vs H Q E h => ?_) (fun cdv A outer s H vs Q E hr h => ?_)
  · obtain ⟨v, n, rfl, _⟩ := h
    rfl
  obtain ⟨v, n, rfl, d, hz, k1, k2⟩ := h
  refine ⟨_, (pss_cons (ps_asg (pe_cl G_measure hr (by omega) pasE (pa_cons (pv 0) pa_nil)) (pg_tup rfl (pgs_cons (pg_name (i := 1) sc_check_size.nd rfl (Or.inl rfl)) (pgs_cons (pg_name (i := 2) sc_check_size.nd rfl (Or.inl rfl)) pgs_nil))))
      (pss_one (ps_if (PW.pt (pw_or (pt_cmpR op_gt (pv 1) (C8.pe_gc rfl T.c_MAX_NODES) (nomark _)) (pw_or1 (pt_cmpR op_gt (pv 2) (C8.pe_gc rfl T.c_MAX_DEPTH) (nomark _))))) (pss_one (ps_tl T rfl (takes_of rfl rfl rfl rfl))) pss_nil))), ?_⟩
  refine ⟨_, rfl, v, n, rfl, d, hz, fun a H' hs ha => ?_⟩
  refine ⟨a, _, rfl, .inl (.inl ha), rfl, _, _, rfl, _, _, rfl, rfl, ?_⟩
  refine ⟨_, rfl, _, _, rfl, rfl, _, rfl, ?_⟩
  refine ite2 (fun c => ?_) (fun c => ?_)
  · have c' : (400 : Int) < (size n : Int) := of_decide_eq_true c
    exact iteT (k2 (by omega) _ hs)
  have c1 : ¬ (400 : Int) < (size n : Int) := of_decide_eq_false (Bool.eq_false_iff.mpr c)
  refine ⟨_, rfl, _, _, rfl, rfl, _, rfl, ?_⟩
  refine ite2 (fun c => ?_) (fun c => ?_)
  · have c' : (40 : Int) < (depth n : Int) := of_decide_eq_true c
    exact k2 (by omega) _ hs
  · have c' : ¬ (40 : Int) < (depth n : Int) := of_decide_eq_false (Bool.eq_false_iff.mpr c)
    exact k1 (by omega) (by omega) _ hs
end
end KT

namespace KT
open PySem PySem.Spec
open PyProof.Rows L2 KM
section
variable {X : Cx} {j k : Nat} {E : XK} {ps : List Str} {sp : Sp} {e : Expr} {es : List Expr} {t : TA} {p pos : Pos}
theorem pe_mkP (T : Tp X.w X.K X.mg) (c : Ml X.prog X.w X.K X.mg X.base k "__init__" ps sp) (hr : Room j X.A) (hk : k + 1 ≤ j) (hx : Passes (L2.CX X.prog X.w) X E) (ha : PA X (e :: es) t) (hg : Gl X "Parser" := by rfl)
    (he : starEach (e :: es) X.env = (false, eval e X.env) :: starEach es X.env := by rfl) (hpl : (backTo pos (starEach es X.env)).any (·.1) = false := by rfl) :
    PE X (.Call (.Name "Parser" p) (e :: es) [] pos) (tMake (PC_ X.K) sp [] E t) := by
  obtain ⟨fd, F, b⟩ := c.fn
  exact pe_make T.mkr F (hr.mono hk) hg T.g_Parser b .nil hx ha (by decide) he hpl
end
/-- what a reader answers -/
inductive Ans where
  | out | form | large | node (n : Nd)
def rd (f : Nat) (kd : Kd) (l : List Nat) : Ans := match tk l with
  | none => .form
  | some row => (match P f kd 0 row with
    | .out => .out
    | .bad => .form
    | .ok [n] [] => if size n ≤ 400 ∧ depth n ≤ 40 then .node n else .large
    | .ok _ _ => .form)
structure Rd (K : PySem.W.Frag) (H : Hp) (Q : VK) (E : XK) (x : Ans) : Prop where
  nt : x ≠ .out
  node : ∀ n, x = .node n → ∀ v H', Same H H' → Dp K H' v (enc n) → Q v H'
  form : x = .form → Out0 K H E
  large : x = .large → ∀ H', Same H H' → E (.ref (TL_ K)) none H'
def spWhole (K : PySem.W.Frag) (f : Nat) (kd : Kd) : Sp := fun vs H Q E => ∃ z : Str, vs = [.str z, .bl false] ∧ z.length ≤ 1000000 ∧ (∀ row, tk (tl z) = some row → B row ≤ 1000000) ∧ Rd K H Q E (rd f kd (tl z))
def spRead (K : PySem.W.Frag) (f : Nat) (kd : Kd) : Sp := fun vs H Q E => ∃ z : Str, vs = [.str z] ∧ z.length ≤ 1000000 ∧ (∀ row, tk (tl z) = some row → B row ≤ 1000000) ∧ Rd K H Q E (rd f kd (tl z))
section
variable {P : Program} {w : World} {K : PySem.W.Frag} {mg : Str → Option Value} {base : Heap}
theorem ok_whole_term (T : Tp w K mg) {f k : Nat} (hk : f + 15 ≤ 3 * k) (h6 : 6 ≤ k) : Cl P w K mg base (k + 1) "whole_term" P_whole_term (spWhole K f .term) := by
  have G_init := ok_init (P := P) (base := base) T
  have G_term := ((grp (P := P) (base := base) T f).term).ml hk
  have G_end := ok_end (P := P) (base := base) T
  have G_check_size := ok_check_size (P := P) (base := base) T
  refine cl_of T.f_whole_term T.g_whole_term sc_whole_term (fun _ F => b_whole_term F) (fun vs H Q E h => ?_) (fun cdv A outer s H vs Q E hr h => ?_)
  · obtain ⟨z, rfl, _⟩ := h
    rfl
  obtain ⟨z, rfl, hl, hB, h⟩ := h
  refine ⟨_, (pss_cons (ps_set (i := 2) sc_whole_term.nd rfl (Or.inl rfl) (pe_mkP T G_init hr (by omega) pasE (pa_cons (pv 0) (pa_cons (pv 1) pa_nil))))
      (pss_cons (ps_set (i := 3) sc_whole_term.nd rfl (Or.inl rfl) (pe_ml0 G_term hr (by omega) pasE (pv 2)))
      (pss_cons (ps_expr (pe_ml0 G_end hr (by omega) pasE (pv 2)))
      (pss_cons (ps_expr (pe_cl G_check_size hr (by omega) pasE (pa_cons (pv 3) pa_nil)))
      (pss_one (ps_ret (pv 3))))))), ?_⟩
  refine ⟨_, rfl, _, rfl, fun p dx np nd ne => ?_⟩
  refine ⟨p, dx, z, rfl, upd_same, hl, fun row er H1 b1 a1 => ⟨rfl, ?_⟩, fun e => ?_⟩
  · have s1 : Same H H1 := fun b o q => b1 b o (by rw [upd_ne (ne_of_none q np), upd_ne (ne_of_none q nd)]; exact q) (ne_of_none q np)
    have hrd : rd f .term (tl z) = match KM.P f .term 0 row with
        | .out => .out
        | .bad => .form
        | .ok [n] [] => if size n ≤ 400 ∧ depth n ≤ 40 then .node n else .large
        | .ok _ _ => .form := by unfold rd; rw [er]
    have htk := (tk_len er).2
    have up : ∀ {H2}, But p H1 H2 → Same H H2 := fun b2 b o q => b2 b o (s1 b o q) (ne_of_none q np)
    refine c_one a1 rfl (by decide +kernel) ⟨fun e => h.nt (by rw [hrd, e]), fun n r e v H2 b2 a2 d => ?_, fun e => ?_⟩
    · obtain ⟨c, t, ec, _, et, _, hs⟩ := P_post no1a f .term 0 row _ _ e
      obtain rfl : n = t := by injection et
      have hB2 := hB row er
      have hsz : size n ≤ 1000000 := by have := B_app c r; rw [← ec] at this; omega
      refine cm0 a2 rfl (by decide +kernel) ⟨p, r, 0, rfl, a2, fun t ht => ?_, fun e2 => ?_, fun e2 => ?_⟩
      · have := (htk t (by rw [ec]; exact List.mem_append_right _ ht)).1
        refine decide_eq_false fun q => ?_
        have := tl_nil.mp q
        omega
      · subst e2
        rw [e] at hrd
        refine ⟨_, rfl, v, n, rfl, d, hsz, fun g1 g2 H3 s3 => ⟨_, rfl, ?_⟩, fun g H3 s3 => ?_⟩
        · exact h.node n (hrd.trans (if_pos ⟨g1, g2⟩)) v H3 ((up b2).trans s3) (Dp.same s3 d)
        · exact h.large (hrd.trans (if_neg g)) H3 ((up b2).trans s3)
      · have ef : rd f .term (tl z) = .form := by
          rw [hrd, e]
          cases r with
          | nil => exact absurd rfl e2
          | cons s q => rfl
        exact fun d H3 b3 hd => h.form ef d H3 (up (b2.trans b3)) hd
    · have ef : rd f .term (tl z) = .form := by rw [hrd, e]
      exact fun d H3 b3 hd => h.form ef d H3 (up b3) hd
  · have ef : rd f .term (tl z) = .form := by unfold rd; rw [e]
    refine fun d H3 s3 hd => h.form ef d H3 (fun b o q => ?_) hd
    exact s3 b o (by rw [upd_ne (ne_of_none q np), upd_ne (ne_of_none q nd)]; exact q)
theorem ok_whole_condition (T : Tp w K mg) {f k : Nat} (hk : f + 15 ≤ 3 * k) (h6 : 6 ≤ k) : Cl P w K mg base (k + 1) "whole_condition" P_whole_condition (spWhole K f .cond) := by
  have G_init := ok_init (P := P) (base := base) T
  have G_condition := ((grp (P := P) (base := base) T f).cond).ml hk
  have G_end := ok_end (P := P) (base := base) T
  have G_check_size := ok_check_size (P := P) (base := base) T
  refine cl_of T.f_whole_condition T.g_whole_condition sc_whole_condition (fun _ F => b_whole_condition F) (fun vs H Q E h => ?_) (fun cdv A outer s H vs Q E hr h => ?_)
  · obtain ⟨z, rfl, _⟩ := h
    rfl
  obtain ⟨z, rfl, hl, hB, h⟩ := h
  refine ⟨_, (pss_cons (ps_set (i := 2) sc_whole_condition.nd rfl (Or.inl rfl) (pe_mkP T G_init hr (by omega) pasE (pa_cons (pv 0) (pa_cons (pv 1) pa_nil))))
      (pss_cons (ps_set (i := 3) sc_whole_condition.nd rfl (Or.inl rfl) (pe_ml0 G_condition hr (by omega) pasE (pv 2)))
      (pss_cons (ps_expr (pe_ml0 G_end hr (by omega) pasE (pv 2)))
      (pss_cons (ps_expr (pe_cl G_check_size hr (by omega) pasE (pa_cons (pv 3) pa_nil)))
      (pss_one (ps_ret (pv 3))))))), ?_⟩
  refine ⟨_, rfl, _, rfl, fun p dx np nd ne => ?_⟩
  refine ⟨p, dx, z, rfl, upd_same, hl, fun row er H1 b1 a1 => ⟨rfl, ?_⟩, fun e => ?_⟩
  · have s1 : Same H H1 := fun b o q => b1 b o (by rw [upd_ne (ne_of_none q np), upd_ne (ne_of_none q nd)]; exact q) (ne_of_none q np)
    have hrd : rd f .cond (tl z) = match KM.P f .cond 0 row with
        | .out => .out
        | .bad => .form
        | .ok [n] [] => if size n ≤ 400 ∧ depth n ≤ 40 then .node n else .large
        | .ok _ _ => .form := by unfold rd; rw [er]
    have htk := (tk_len er).2
    have up : ∀ {H2}, But p H1 H2 → Same H H2 := fun b2 b o q => b2 b o (s1 b o q) (ne_of_none q np)
    refine c_one a1 rfl (by decide +kernel) ⟨fun e => h.nt (by rw [hrd, e]), fun n r e v H2 b2 a2 d => ?_, fun e => ?_⟩
    · obtain ⟨c, t, ec, _, et, _, hs⟩ := P_post no1a f .cond 0 row _ _ e
      obtain rfl : n = t := by injection et
      have hB2 := hB row er
      have hsz : size n ≤ 1000000 := by have := B_app c r; rw [← ec] at this; omega
      refine cm0 a2 rfl (by decide +kernel) ⟨p, r, 0, rfl, a2, fun t ht => ?_, fun e2 => ?_, fun e2 => ?_⟩
      · have := (htk t (by rw [ec]; exact List.mem_append_right _ ht)).1
        refine decide_eq_false fun q => ?_
        have := tl_nil.mp q
        omega
      · subst e2
        rw [e] at hrd
        refine ⟨_, rfl, v, n, rfl, d, hsz, fun g1 g2 H3 s3 => ⟨_, rfl, ?_⟩, fun g H3 s3 => ?_⟩
        · exact h.node n (hrd.trans (if_pos ⟨g1, g2⟩)) v H3 ((up b2).trans s3) (Dp.same s3 d)
        · exact h.large (hrd.trans (if_neg g)) H3 ((up b2).trans s3)
      · have ef : rd f .cond (tl z) = .form := by
          rw [hrd, e]
          cases r with
          | nil => exact absurd rfl e2
          | cons s q => rfl
        exact fun d H3 b3 hd => h.form ef d H3 (up (b2.trans b3)) hd
    · have ef : rd f .cond (tl z) = .form := by rw [hrd, e]
      exact fun d H3 b3 hd => h.form ef d H3 (up b3) hd
  · have ef : rd f .cond (tl z) = .form := by unfold rd; rw [e]
    refine fun d H3 s3 hd => h.form ef d H3 (fun b o q => ?_) hd
    exact s3 b o (by rw [upd_ne (ne_of_none q np), upd_ne (ne_of_none q nd)]; exact q)
theorem ok_read_term (T : Tp w K mg) {f k : Nat} (hk : f + 15 ≤ 3 * k) (h6 : 6 ≤ k) : Cl P w K mg base (k + 2) "read_term" P_read_term (spRead K f .term) := by
  have G_whole_term := ok_whole_term (P := P) (base := base) T hk h6
  refine cl_of T.f_read_term T.g_read_term sc_read_term (fun _ F => b_read_term F) (fun vs H Q E h => ?_) (fun cdv A outer s H vs Q E hr h => ?_)
  · obtain ⟨z, rfl, _⟩ := h
    rfl
  obtain ⟨z, rfl, hl, hB, h⟩ := h
  refine ⟨_, (pss_one (ps_ret (pe_cl G_whole_term hr (by omega) pasE (pa_cons (pv 0) (pa_cons pe_bl pa_nil))))), ?_⟩
  exact ⟨_, rfl, z, rfl, hl, hB, h⟩
theorem ok_read_condition (T : Tp w K mg) {f k : Nat} (hk : f + 15 ≤ 3 * k) (h6 : 6 ≤ k) : Cl P w K mg base (k + 2) "read_condition" P_read_condition (spRead K f .cond) := by
  have G_whole_condition := ok_whole_condition (P := P) (base := base) T hk h6
  refine cl_of T.f_read_condition T.g_read_condition sc_read_condition (fun _ F => b_read_condition F) (fun vs H Q E h => ?_) (fun cdv A outer s H vs Q E hr h => ?_)
  · obtain ⟨z, rfl, _⟩ := h
    rfl
  obtain ⟨z, rfl, hl, hB, h⟩ := h
  refine ⟨_, (pss_one (ps_ret (pe_cl G_whole_condition hr (by omega) pasE (pa_cons (pv 0) (pa_cons pe_bl pa_nil))))), ?_⟩
  exact ⟨_, rfl, z, rfl, hl, hB, h⟩
end
end KT

namespace KT
open PySem PySem.Spec
open PyProof.Rows L2 KM
abbrev sS (l : List Nat) : Str := ⟨l.toArray⟩
theorem sS_len (l : List Nat) : (sS l).length = l.length := List.size_toArray
theorem sS_app (l m : List Nat) : sS l ++ sS m = sS (l ++ m) := TL.ext_tl (by rw [TL.tl_append])
theorem sS_tl (x : Str) : sS (tl x) = x := TL.ext_tl rfl
theorem log_ok {n : Nat} (h : n ≤ 1000000) : n.log2 < 1920 := by
  by_cases e : n = 0
  · subst e; decide
  · exact (Nat.log2_lt e).mpr (Nat.lt_of_le_of_lt h (Nat.lt_of_lt_of_le (show (1000000 : Nat) < 2 ^ 20 by decide) (Nat.pow_le_pow_right (by decide) (show 20 ≤ 1920 by decide))))
theorem tl_nx (i : Int) : tl (Str.ofString (toString i)) = nx i := by
  cases i with
  | ofNat m => exact (TL.tl_num m).trans (if_neg (by simp)).symm
  | negSucc m =>
    have e1 : tl (Str.ofString (toString (Int.negSucc m))) = 45 :: TL.numL (m + 1) := by
      rw [Str.ofString_eq_toList]
      show (("-" ++ Nat.repr (m + 1)).toList).map Char.toNat = _
      rw [String.toList_append, List.map_append, Nat.toList_repr]
      rfl
    exact e1.trans (if_pos (Int.negSucc_lt_zero m)).symm
theorem sS_nx (i : Int) : Str.ofString (toString i) = sS (nx i) := TL.ext_tl (tl_nx i)
section
variable {K : PySem.W.Frag} {H : Hp} {σ : L2.St} {j : Nat} {Q : VK} {D : Ends} {A : TS} {w u : Str} {ts : List TE} {l m : List Nat} {R : Str → Hp → Prop} {te : TE}
theorem r_ix {a : Addr} {xs : List V} {z : Int} {x : V} (hi : σ[j]? = some (some (.ref a))) (hq : SqT K H a xs) (h : atI xs z = some x) (k : Q x H) : tOp (rIxT K) (tVar j) (tC (.int z)) σ H Q := ⟨_, hi, a, xs, z, x, rfl, rfl, hq, h, k⟩
theorem r_no (hj : σ[j]? = some (some (.str w))) (h : (w == u) = false) (k : D.nx σ H) : tIfS (tTest (tOp rEq (tVar j) (tC (.str u)))) A tNext D σ H :=
  ⟨_, hj, rfl, _, rfl, by rw [show decide (V.str w = V.str u) = false from decide_eq_false fun e => beq_eq_false_iff_ne.mp h (V.str.inj e)]; exact iteF k⟩
theorem r_yes (hj : σ[j]? = some (some (.str w))) (h : (w == u) = true) (k : A D σ H) : tIfS (tTest (tOp rEq (tVar j) (tC (.str u)))) A tNext D σ H :=
  ⟨_, hj, rfl, _, rfl, by rw [show decide (V.str w = V.str u) = true from decide_eq_true (congrArg V.str (eq_of_beq h))]; exact iteT k⟩
theorem r_no2 {u' : Str} (hj : σ[j]? = some (some (.str w))) (h : (w == u) = false) (h' : (w == u') = false) (k : D.nx σ H) : tIfS (tOr (tTest (tOp rEq (tVar j) (tC (.str u)))) (tTest (tOp rEq (tVar j) (tC (.str u'))))) A tNext D σ H :=
  ⟨_, hj, rfl, _, rfl, by
    rw [show decide (V.str w = V.str u) = false from decide_eq_false fun e => beq_eq_false_iff_ne.mp h (V.str.inj e)]
    refine iteF ⟨_, hj, rfl, _, rfl, ?_⟩
    rw [show decide (V.str w = V.str u') = false from decide_eq_false fun e => beq_eq_false_iff_ne.mp h' (V.str.inj e)]
    exact iteF k⟩
theorem r_yes2 {u' : Str} (hj : σ[j]? = some (some (.str w))) (h : (w == u) = true ∨ (w == u') = true) (k : A D σ H) : tIfS (tOr (tTest (tOp rEq (tVar j) (tC (.str u)))) (tTest (tOp rEq (tVar j) (tC (.str u'))))) A tNext D σ H :=
  ⟨_, hj, rfl, _, rfl, by
    by_cases c : w = u
    · rw [show decide (V.str w = V.str u) = true from decide_eq_true (congrArg V.str c)]
      exact iteT (iteT k)
    · rw [show decide (V.str w = V.str u) = false from decide_eq_false fun e => c (V.str.inj e)]
      refine iteF ⟨_, hj, rfl, _, rfl, ?_⟩
      have c' : w = u' := eq_of_beq (h.resolve_left fun e => c (eq_of_beq e))
      rw [show decide (V.str w = V.str u') = true from decide_eq_true (congrArg V.str c')]
      exact iteT k⟩
theorem j_lit (h : l.length + (tl w).length ≤ 1000000) (k : tJs ts (sS (l ++ tl w)) σ H R) : tJs (tC (.str w) :: ts) (sS l) σ H R := by
  have e : sS l ++ w = sS (l ++ tl w) := by rw [← sS_app, sS_tl]
  refine ⟨w, rfl, ?_, ?_⟩
  · rw [e, sS_len, List.length_append]; exact sl6 h
  · rw [e]; exact k
theorem j_str (h : l.length + m.length ≤ 1000000) {y : Str} (ey : y = sS m) (k : tJs ts (sS (l ++ m)) σ H R) : (∃ x : Str, V.str y = .str x ∧ x.length ≤ sizeLine ∧ (∃ z : Str, V.str x = .str z ∧ (sS l ++ z).length ≤ sizeLine ∧ tJs ts (sS l ++ z) σ H R)) ∨
    ∃ i : Int, V.str y = .int i ∧ i.natAbs.log2 < 1920 ∧ (∃ z : Str, V.str (Str.ofString (toString i)) = .str z ∧ (sS l ++ z).length ≤ sizeLine ∧ tJs ts (sS l ++ z) σ H R) := by
  subst ey
  refine .inl ⟨_, rfl, ?_, _, rfl, ?_, ?_⟩
  · rw [sS_len]; exact sl6 (by omega)
  · rw [sS_app, sS_len, List.length_append]; exact sl6 h
  · rw [sS_app]; exact k
theorem j_int (h : l.length + m.length ≤ 1000000) {i : Int} (hi : i.natAbs ≤ 1000000) (em : nx i = m) (k : tJs ts (sS (l ++ m)) σ H R) : (∃ x : Str, V.int i = .str x ∧ x.length ≤ sizeLine ∧ (∃ z : Str, V.str x = .str z ∧ (sS l ++ z).length ≤ sizeLine ∧ tJs ts (sS l ++ z) σ H R)) ∨
    ∃ i' : Int, V.int i = .int i' ∧ i'.natAbs.log2 < 1920 ∧ (∃ z : Str, V.str (Str.ofString (toString i')) = .str z ∧ (sS l ++ z).length ≤ sizeLine ∧ tJs ts (sS l ++ z) σ H R) := by
  subst em
  refine .inr ⟨i, rfl, log_ok hi, _, rfl, ?_, ?_⟩
  · rw [sS_nx, sS_app, sS_len, List.length_append]; exact sl6 h
  · rw [sS_nx, sS_app]; exact k
end
/-! ### texts -/
def spTx (K : PySem.W.Frag) (b : Bool) (d : Nat) : Sp := fun vs H Q _ => ∃ (v : V) (n : Nd), vs = [v] ∧ Dp K H v (enc n) ∧ wk b n ∧ depth n ≤ d ∧ (px n).length ≤ 1000000 ∧ ∀ H', Same H H' → Q (.str (sS (px n))) H'
def spPlus (K : PySem.W.Frag) (d : Nat) : Sp := fun vs H Q _ => ∃ (v : V) (t : Nd) (i : Int), vs = [v, .int i] ∧ Dp K H v (enc t) ∧ wk true (.plus t i) ∧ depth t + 1 ≤ d ∧ (px (.plus t i)).length ≤ 1000000 ∧ ∀ H', Same H H' → Q (.str (sS (px (.plus t i)))) H'
theorem tl_mi : tl (" - " : Str) = [32, 45, 32] := by decide +kernel
theorem tl_pl : tl (" + " : Str) = [32, 43, 32] := by decide +kernel
theorem nx_pos {i : Int} (h : 0 ≤ i) : nx i = TL.numL i.natAbs := if_neg (by omega)
section
variable {P : Program} {w : World} {K : PySem.W.Frag} {mg : Str → Option Value} {base : Heap}
theorem ok_plus_text (T : Tp w K mg) {d : Nat} (G_term_text : Cl P w K mg base (2 * d + 1) "term_text" P_term_text (spTx K true d)) : Cl P w K mg base (2 * d + 2) "plus_text" P_plus_text (spPlus K (d + 1)) := by
  refine cl_of T.f_plus_text T.g_plus_text sc_plus_text (fun _ F => b_plus_text F) (fun vs H Q E h => ?_) (fun cdv A outer s H vs Q E hr h => ?_)
  · obtain ⟨v, t, i, rfl, _⟩ := h
    rfl
  obtain ⟨v, t, i, rfl, dt, hw, hd, hl, k⟩ := h
  obtain ⟨w1, w2, w3⟩ := hw
  refine ⟨_, (pss_cons (ps_if (pt_cmpR op_lt (pv 1) pe_int (nomark _)) (pss_one (ps_ret (pe_joined (PJ.cons (pe_fmt (pe_cl G_term_text hr (by omega) pasE (pa_cons (pv 0) pa_nil))) (PJ.cons pe_str (PJ.cons (pe_fmt (pe_un un_neg (pv 1))) PJ.nil)))))) pss_nil)
      (pss_one (ps_ret (pe_joined (PJ.cons (pe_fmt (pe_cl G_term_text hr (by omega) pasE (pa_cons (pv 0) pa_nil))) (PJ.cons pe_str (PJ.cons (pe_fmt (pv 1)) PJ.nil))))))), ?_⟩
  have hpx : px (.plus t i) = px t ++ 32 :: (if i < 0 then 45 else 43) :: 32 :: TL.numL i.natAbs := rfl
  have hl' := hl
  rw [hpx] at hl'
  simp only [List.length_append, List.length_cons] at hl'
  refine ⟨_, rfl, _, _, rfl, rfl, _, rfl, ?_⟩
  refine ite2 (fun c => ?_) (fun c => ?_)
  · have c' : i < 0 := of_decide_eq_true c
    refine ⟨_, rfl, v, t, rfl, dt, w1, by omega, by omega, fun H' s' => ?_⟩
    refine j_str (l := []) (by simp; omega) rfl ?_
    rw [List.nil_append]
    refine j_lit (by rw [tl_mi]; simp; omega) ?_
    refine ⟨_, rfl, i, rfl, ?_⟩
    refine j_int (m := TL.numL i.natAbs) (by rw [tl_mi]; simp; omega) (by omega) (by rw [nx_pos (by omega), Int.natAbs_neg]) ?_
    have q := k H' s'
    rw [hpx, if_pos c'] at q
    show Q (.str (sS _)) H'
    rw [tl_mi]
    simpa using q
  · have c' : ¬ i < 0 := of_decide_eq_false (Bool.eq_false_iff.mpr c)
    refine ⟨_, rfl, v, t, rfl, dt, w1, by omega, by omega, fun H' s' => ?_⟩
    refine j_str (l := []) (by simp; omega) rfl ?_
    rw [List.nil_append]
    refine j_lit (by rw [tl_pl]; simp; omega) ?_
    refine ⟨_, rfl, ?_⟩
    refine j_int (m := TL.numL i.natAbs) (by rw [tl_pl]; simp; omega) (by omega) (nx_pos (by omega)) ?_
    have q := k H' s'
    rw [hpx, if_neg c'] at q
    show Q (.str (sS _)) H'
    rw [tl_pl]
    simpa using q
theorem len_tx {b : Bool} {d : Nat} : ∀ vs H Q E, spTx K b d vs H Q E → vs.length = 1 := fun vs H Q E h => by
  obtain ⟨v, n, rfl, _⟩ := h
  rfl
theorem ok_term_text (T : Tp w K mg) {d : Nat} (G_term_text : Cl P w K mg base (2 * d + 1) "term_text" P_term_text (spTx K true d)) (G_condition_text : Cl P w K mg base (2 * d + 1) "condition_text" P_condition_text (spTx K false d)) :
    Cl P w K mg base (2 * (d + 1) + 1) "term_text" P_term_text (spTx K true (d + 1)) := by
  have G_plus_text := ok_plus_text T G_term_text
  refine cl_of T.f_term_text T.g_term_text sc_term_text (fun _ F => b_term_text F) len_tx (fun cdv A outer s H vs Q E hr h => ?_)
  obtain ⟨v, n, rfl, dn, hw, hd, hl, k⟩ := h
  rw [enc_eq] at dn
  obtain ⟨a, xs, rfl, hq, dt⟩ := dp_tup dn
  obtain ⟨x0, r0, rfl, d0, da⟩ := dp_all dt
  obtain rfl := dp_str d0
  refine ⟨_, (pss_cons (ps_set (i := 1) sc_term_text.nd rfl (Or.inl rfl) (pe_ix ix_tup (pv 0) pe_int (fun _ _ => rfl)))
      (pss_cons (ps_if (pt_cmpR op_eq (pv 1) pe_str (nomark _)) (pss_one (ps_ret (pe_ix ix_tup (pv 0) pe_int (fun _ _ => rfl)))) pss_nil)
      (pss_cons (ps_if (pt_cmpR op_eq (pv 1) pe_str (nomark _)) (pss_one (ps_ret (pe_joined (PJ.cons (pe_fmt (pv 1)) (PJ.cons pe_str (PJ.cons (pe_fmt (pe_ix ix_tup (pv 0) pe_int (fun _ _ => rfl))) PJ.nil)))))) pss_nil)
      (pss_cons (ps_if (pt_cmpR op_eq (pv 1) pe_str (nomark _)) (pss_one (ps_ret (pe_joined (PJ.cons pe_str (PJ.cons (pe_fmt (pe_ix ix_tup (pv 0) pe_int (fun _ _ => rfl))) PJ.nil))))) pss_nil)
      (pss_cons (ps_if (pt_cmpR op_eq (pv 1) pe_str (nomark _)) (pss_one (ps_ret (pe_cl G_plus_text hr (by omega) pasE (pa_cons (pe_ix ix_tup (pv 0) pe_int (fun _ _ => rfl)) (pa_cons (pe_ix ix_tup (pv 0) pe_int (fun _ _ => rfl)) pa_nil))))) pss_nil)
      (pss_cons (ps_if (PW.pt (pw_or (pt_cmpR op_eq (pv 1) pe_str (nomark _)) (pw_or1 (pt_cmpR op_eq (pv 1) pe_str (nomark _))))) (pss_one (ps_ret (pe_joined (PJ.cons (pe_fmt (pv 1)) (PJ.cons pe_str (PJ.cons (pe_fmt (pe_ix ix_tup (pv 0) pe_int (fun _ _ => rfl))) (PJ.cons pe_str (PJ.cons (pe_fmt (pe_cl G_term_text hr (by omega) pasE (pa_cons (pe_ix ix_tup (pv 0) pe_int (fun _ _ => rfl)) pa_nil))) (PJ.cons pe_str PJ.nil))))))))) pss_nil)
      (pss_cons (ps_if (pt_cmpR op_eq (pv 1) pe_str (nomark _)) (pss_one (ps_ret (pe_joined (PJ.cons pe_str (PJ.cons (pe_fmt (pe_ix ix_tup (pv 0) pe_int (fun _ _ => rfl))) (PJ.cons pe_str (PJ.cons (pe_fmt (pe_ix ix_tup (pv 0) pe_int (fun _ _ => rfl))) (PJ.cons pe_str (PJ.cons (pe_fmt (pe_cl G_term_text hr (by omega) pasE (pa_cons (pe_ix ix_tup (pv 0) pe_int (fun _ _ => rfl)) pa_nil))) (PJ.cons pe_str PJ.nil)))))))))) pss_nil)
      (pss_cons (ps_if (pt_cmpR op_eq (pv 1) pe_str (nomark _)) (pss_one (ps_ret (pe_joined (PJ.cons pe_str (PJ.cons (pe_fmt (pe_cl G_condition_text hr (by omega) pasE (pa_cons (pe_ix ix_tup (pv 0) pe_int (fun _ _ => rfl)) pa_nil))) (PJ.cons pe_str (PJ.cons (pe_fmt (pe_cl G_term_text hr (by omega) pasE (pa_cons (pe_ix ix_tup (pv 0) pe_int (fun _ _ => rfl)) pa_nil))) (PJ.cons pe_str (PJ.cons (pe_fmt (pe_cl G_term_text hr (by omega) pasE (pa_cons (pe_ix ix_tup (pv 0) pe_int (fun _ _ => rfl)) pa_nil))) (PJ.cons pe_str PJ.nil)))))))))) pss_nil)
      (pss_one (ps_ret (pe_joined (PJ.cons (pe_fmt (pv 1)) (PJ.cons pe_str (PJ.cons (pe_fmt (pe_cl G_term_text hr (by omega) pasE (pa_cons (pe_ix ix_tup (pv 0) pe_int (fun _ _ => rfl)) pa_nil))) (PJ.cons pe_str (PJ.cons (pe_fmt (pe_cl G_term_text hr (by omega) pasE (pa_cons (pe_ix ix_tup (pv 0) pe_int (fun _ _ => rfl)) pa_nil))) (PJ.cons pe_str PJ.nil))))))))))))))))), ?_⟩
  refine r_ix rfl hq (atI_nat (j := 0) rfl) ?_
  cases n with
  | le | isO | flag | yes | neg | conj | disj => exact absurd hw id
  | day x =>
    obtain ⟨x1, r1, rfl, d1, da1⟩ := dp_all da
    obtain rfl := dp_str d1
    refine r_yes rfl (by dsimp only [wd]; decide +kernel) ?_
    refine r_ix rfl hq (atI_nat (j := 1) rfl) ?_
    have q := k H (Same.refl H)
    rw [show px (.day x) = tl x from rfl, sS_tl] at q
    exact q
  | num i =>
    obtain ⟨x1, r1, rfl, d1, da1⟩ := dp_all da
    obtain rfl := dp_int d1
    have hw' : -1000000 ≤ i ∧ i ≤ 1000000 := hw
    have hl' : (nx i).length + 1 ≤ 1000000 := hl
    have ea : tl ("@" : Str) = [64] := by decide +kernel
    refine r_no rfl (by dsimp only [wd]; decide +kernel) ?_
    refine r_no rfl (by dsimp only [wd]; decide +kernel) ?_
    refine r_yes rfl (by dsimp only [wd]; decide +kernel) ?_
    refine j_lit (l := []) (by rw [ea]; simp only [List.length_append, List.length_cons, List.length_nil]; omega) ?_
    refine r_ix rfl hq (atI_nat (j := 1) rfl) ?_
    refine j_int (by rw [ea]; simp only [List.length_append, List.length_cons, List.length_nil]; omega) (by omega) rfl ?_
    have q := k H (Same.refl H)
    show Q (.str (sS _)) H
    rw [ea]
    exact q
  | plus t i =>
    obtain ⟨x1, r1, rfl, d1, da1⟩ := dp_all da
    obtain ⟨x2, r2, rfl, d2, da2⟩ := dp_all da1
    obtain rfl := dp_int d2
    refine r_no rfl (by dsimp only [wd]; decide +kernel) ?_
    refine r_no rfl (by dsimp only [wd]; decide +kernel) ?_
    refine r_no rfl (by dsimp only [wd]; decide +kernel) ?_
    refine r_yes rfl (by dsimp only [wd]; decide +kernel) ?_
    refine r_ix rfl hq (atI_nat (j := 1) rfl) ?_
    refine r_ix rfl hq (atI_nat (j := 2) rfl) ?_
    exact ⟨x1, t, i, rfl, d1, hw, hd, hl, k⟩
  | near b z t =>
    obtain ⟨x1, r1, rfl, d1, da1⟩ := dp_all da
    obtain ⟨x2, r2, rfl, d2, da2⟩ := dp_all da1
    obtain rfl := dp_str d1
    have hd' : depth t + 1 ≤ d + 1 := hd
    have hpx : px (.near b z t) = tl (wd (.near b z t)) ++ 32 :: (tl z ++ 40 :: (px t ++ [41])) := rfl
    have hl' := hl
    rw [hpx] at hl'
    simp only [List.length_append, List.length_cons, List.length_nil] at hl'
    have e1 : tl (" " : Str) = [32] := by decide +kernel
    have e2 : tl ("(" : Str) = [40] := by decide +kernel
    have e3 : tl (")" : Str) = [41] := by decide +kernel
    refine r_no rfl (by cases b <;> (dsimp only [wd]; decide +kernel)) ?_
    refine r_no rfl (by cases b <;> (dsimp only [wd]; decide +kernel)) ?_
    refine r_no rfl (by cases b <;> (dsimp only [wd]; decide +kernel)) ?_
    refine r_no rfl (by cases b <;> (dsimp only [wd]; decide +kernel)) ?_
    refine r_yes2 rfl (by cases b <;> (dsimp only [wd]; decide +kernel)) ?_
    refine ⟨_, rfl, ?_⟩
    refine j_str (l := []) (m := tl (wd (.near b z t))) (by simp only [List.length_append, List.length_cons, List.length_nil]; omega) (sS_tl _).symm ?_
    refine j_lit (by rw [e1]; simp only [List.length_append, List.length_cons, List.length_nil]; omega) ?_
    refine r_ix rfl hq (atI_nat (j := 1) rfl) ?_
    refine j_str (m := tl z) (by rw [e1]; simp only [List.length_append, List.length_cons, List.length_nil]; omega) (sS_tl _).symm ?_
    refine j_lit (by rw [e1, e2]; simp only [List.length_append, List.length_cons, List.length_nil]; omega) ?_
    refine r_ix rfl hq (atI_nat (j := 2) rfl) ?_
    refine ⟨x2, t, rfl, d2, hw.2, by omega, by omega, fun H' s' => ?_⟩
    refine j_str (by rw [e1, e2]; simp only [List.length_append, List.length_cons, List.length_nil]; omega) rfl ?_
    refine j_lit (by rw [e1, e2, e3]; simp only [List.length_append, List.length_cons, List.length_nil]; omega) ?_
    have q := k H' s'
    show Q (.str (sS _)) H'
    rw [e1, e2, e3]
    rw [hpx] at q
    simpa using q
  | nth z t i =>
    obtain ⟨x1, r1, rfl, d1, da1⟩ := dp_all da
    obtain ⟨x2, r2, rfl, d2, da2⟩ := dp_all da1
    obtain ⟨x3, r3, rfl, d3, da3⟩ := dp_all da2
    obtain rfl := dp_str d1
    obtain rfl := dp_int d3
    have hd' : depth t + 1 ≤ d + 1 := hd
    have hw' := hw.2.2
    have e0 : tl ("open " : Str) = tl ("open" : Str) ++ [32] := by decide +kernel
    have ez : (tl ("open" : Str)).length = 4 := by decide +kernel
    have hpx : px (.nth z t i) = tl ("open" : Str) ++ 32 :: (tl z ++ 32 :: (nx i ++ 40 :: (px t ++ [41]))) := rfl
    have hl' := hl
    rw [hpx] at hl'
    simp only [List.length_append, List.length_cons, List.length_nil, ez] at hl'
    have e1 : tl (" " : Str) = [32] := by decide +kernel
    have e2 : tl ("(" : Str) = [40] := by decide +kernel
    have e3 : tl (")" : Str) = [41] := by decide +kernel
    refine r_no rfl (by dsimp only [wd]; decide +kernel) ?_
    refine r_no rfl (by dsimp only [wd]; decide +kernel) ?_
    refine r_no rfl (by dsimp only [wd]; decide +kernel) ?_
    refine r_no rfl (by dsimp only [wd]; decide +kernel) ?_
    refine r_no2 rfl (by dsimp only [wd]; decide +kernel) (by dsimp only [wd]; decide +kernel) ?_
    refine r_yes rfl (by dsimp only [wd]; decide +kernel) ?_
    refine j_lit (l := []) (by rw [e0]; simp only [List.length_append, List.length_cons, List.length_nil, ez]; omega) ?_
    refine r_ix rfl hq (atI_nat (j := 1) rfl) ?_
    refine j_str (m := tl z) (by rw [e0]; simp only [List.length_append, List.length_cons, List.length_nil, ez]; omega) (sS_tl _).symm ?_
    refine j_lit (by rw [e0, e1]; simp only [List.length_append, List.length_cons, List.length_nil, ez]; omega) ?_
    refine r_ix rfl hq (atI_nat (j := 3) rfl) ?_
    refine j_int (by rw [e0, e1]; simp only [List.length_append, List.length_cons, List.length_nil, ez]; omega) (by omega) rfl ?_
    refine j_lit (by rw [e0, e1, e2]; simp only [List.length_append, List.length_cons, List.length_nil, ez]; omega) ?_
    refine r_ix rfl hq (atI_nat (j := 2) rfl) ?_
    refine ⟨x2, t, rfl, d2, hw.2.1, by omega, by omega, fun H' s' => ?_⟩
    refine j_str (by rw [e0, e1, e2]; simp only [List.length_append, List.length_cons, List.length_nil, ez]; omega) rfl ?_
    refine j_lit (by rw [e0, e1, e2, e3]; simp only [List.length_append, List.length_cons, List.length_nil, ez]; omega) ?_
    have q := k H' s'
    show Q (.str (sS _)) H'
    rw [e0, e1, e2, e3]
    rw [hpx] at q
    simpa using q
  | pick b t u =>
    obtain ⟨x1, r1, rfl, d1, da1⟩ := dp_all da
    obtain ⟨x2, r2, rfl, d2, da2⟩ := dp_all da1
    have hd' : max (depth t) (depth u) + 1 ≤ d + 1 := hd
    have hpx : px (.pick b t u) = tl (wd (.pick b t u)) ++ 40 :: (px t ++ 44 :: 32 :: (px u ++ [41])) := rfl
    have hl' := hl
    rw [hpx] at hl'
    simp only [List.length_append, List.length_cons, List.length_nil] at hl'
    have e1 : tl (", " : Str) = [44, 32] := by decide +kernel
    have e2 : tl ("(" : Str) = [40] := by decide +kernel
    have e3 : tl (")" : Str) = [41] := by decide +kernel
    refine r_no rfl (by cases b <;> (dsimp only [wd]; decide +kernel)) ?_
    refine r_no rfl (by cases b <;> (dsimp only [wd]; decide +kernel)) ?_
    refine r_no rfl (by cases b <;> (dsimp only [wd]; decide +kernel)) ?_
    refine r_no rfl (by cases b <;> (dsimp only [wd]; decide +kernel)) ?_
    refine r_no2 rfl (by cases b <;> (dsimp only [wd]; decide +kernel)) (by cases b <;> (dsimp only [wd]; decide +kernel)) ?_
    refine r_no rfl (by cases b <;> (dsimp only [wd]; decide +kernel)) ?_
    refine r_no rfl (by cases b <;> (dsimp only [wd]; decide +kernel)) ?_
    refine ⟨_, rfl, ?_⟩
    refine j_str (l := []) (m := tl (wd (.pick b t u))) (by simp only [List.length_append, List.length_cons, List.length_nil]; omega) (sS_tl _).symm ?_
    refine j_lit (by rw [e2]; simp only [List.length_append, List.length_cons, List.length_nil]; omega) ?_
    refine r_ix rfl hq (atI_nat (j := 1) rfl) ?_
    refine ⟨x1, t, rfl, d1, hw.1, by omega, by omega, fun H1 s1 => ?_⟩
    refine j_str (by rw [e2]; simp only [List.length_append, List.length_cons, List.length_nil]; omega) rfl ?_
    refine j_lit (by rw [e1, e2]; simp only [List.length_append, List.length_cons, List.length_nil]; omega) ?_
    refine r_ix rfl (same_sqt s1 hq) (atI_nat (j := 2) rfl) ?_
    refine ⟨x2, u, rfl, Dp.same s1 d2, hw.2, by omega, by omega, fun H2 s2 => ?_⟩
    refine j_str (by rw [e1, e2]; simp only [List.length_append, List.length_cons, List.length_nil]; omega) rfl ?_
    refine j_lit (by rw [e1, e2, e3]; simp only [List.length_append, List.length_cons, List.length_nil]; omega) ?_
    have q := k H2 (s1.trans s2)
    show Q (.str (sS _)) H2
    rw [e1, e2, e3]
    rw [hpx] at q
    simpa using q
  | ite c t u =>
    obtain ⟨x1, r1, rfl, d1, da1⟩ := dp_all da
    obtain ⟨x2, r2, rfl, d2, da2⟩ := dp_all da1
    obtain ⟨x3, r3, rfl, d3, da3⟩ := dp_all da2
    have hd' : max (depth c) (max (depth t) (depth u)) + 1 ≤ d + 1 := hd
    have e0 : tl ("if(" : Str) = tl ("if" : Str) ++ [40] := by decide +kernel
    have ez : (tl ("if" : Str)).length = 2 := by decide +kernel
    have hpx : px (.ite c t u) = tl ("if" : Str) ++ 40 :: (px c ++ 44 :: 32 :: (px t ++ 44 :: 32 :: (px u ++ [41]))) := rfl
    have hl' := hl
    rw [hpx] at hl'
    simp only [List.length_append, List.length_cons, List.length_nil, ez] at hl'
    have e1 : tl (", " : Str) = [44, 32] := by decide +kernel
    have e3 : tl (")" : Str) = [41] := by decide +kernel
    refine r_no rfl (by dsimp only [wd]; decide +kernel) ?_
    refine r_no rfl (by dsimp only [wd]; decide +kernel) ?_
    refine r_no rfl (by dsimp only [wd]; decide +kernel) ?_
    refine r_no rfl (by dsimp only [wd]; decide +kernel) ?_
    refine r_no2 rfl (by dsimp only [wd]; decide +kernel) (by dsimp only [wd]; decide +kernel) ?_
    refine r_no rfl (by dsimp only [wd]; decide +kernel) ?_
    refine r_yes rfl (by dsimp only [wd]; decide +kernel) ?_
    refine j_lit (l := []) (by rw [e0]; simp only [List.length_append, List.length_cons, List.length_nil, ez]; omega) ?_
    refine r_ix rfl hq (atI_nat (j := 1) rfl) ?_
    refine ⟨x1, c, rfl, d1, hw.1, by omega, by omega, fun H1 s1 => ?_⟩
    refine j_str (by rw [e0]; simp only [List.length_append, List.length_cons, List.length_nil, ez]; omega) rfl ?_
    refine j_lit (by rw [e0, e1]; simp only [List.length_append, List.length_cons, List.length_nil, ez]; omega) ?_
    refine r_ix rfl (same_sqt s1 hq) (atI_nat (j := 2) rfl) ?_
    refine ⟨x2, t, rfl, Dp.same s1 d2, hw.2.1, by omega, by omega, fun H2 s2 => ?_⟩
    refine j_str (by rw [e0, e1]; simp only [List.length_append, List.length_cons, List.length_nil, ez]; omega) rfl ?_
    refine j_lit (by rw [e0, e1]; simp only [List.length_append, List.length_cons, List.length_nil, ez]; omega) ?_
    refine r_ix rfl (same_sqt (s1.trans s2) hq) (atI_nat (j := 3) rfl) ?_
    refine ⟨x3, u, rfl, Dp.same (s1.trans s2) d3, hw.2.2, by omega, by omega, fun H3 s3 => ?_⟩
    refine j_str (by rw [e0, e1]; simp only [List.length_append, List.length_cons, List.length_nil, ez]; omega) rfl ?_
    refine j_lit (by rw [e0, e1, e3]; simp only [List.length_append, List.length_cons, List.length_nil, ez]; omega) ?_
    have q := k H3 ((s1.trans s2).trans s3)
    show Q (.str (sS _)) H3
    rw [e0, e1, e3]
    rw [hpx] at q
    simpa using q
/-- a condition in brackets, if its word is one of ws -/
def spBr (K : PySem.W.Frag) (d : Nat) : Sp := fun vs H Q _ => ∃ (v : V) (a : Addr) (ws : List Str) (n : Nd), vs = [v, .ref a] ∧ H a = some (.tup (ws.map V.str)) ∧ Dp K H v (enc n) ∧ wk false n ∧ depth n ≤ d ∧ (px n).length + 2 ≤ 1000000 ∧
  ∀ H', Same H H' → Q (.str (sS (bx (ws.contains (wd n)) (px n)))) H'
theorem ok_bracketed (T : Tp w K mg) {d : Nat} (G_condition_text : Cl P w K mg base (2 * d + 1) "condition_text" P_condition_text (spTx K false d)) : Cl P w K mg base (2 * d + 2) "bracketed" P_bracketed (spBr K d) := by
  refine cl_of T.f_bracketed T.g_bracketed sc_bracketed (fun _ F => b_bracketed F) (fun vs H Q E h => ?_) (fun cdv A outer s H vs Q E hr h => ?_)
  · obtain ⟨v, a, ws, n, rfl, _⟩ := h
    rfl
  obtain ⟨v, b, ws, n, rfl, hb, dn, hw, hd, hl, k⟩ := h
  have dn' := dn
  rw [enc_eq] at dn'
  obtain ⟨a, xs, rfl, hq, dt⟩ := dp_tup dn'
  obtain ⟨x0, r0, rfl, d0, da⟩ := dp_all dt
  obtain rfl := dp_str d0
  refine ⟨_, (pss_cons (ps_if (pt_cmpR op_in_seq (pe_ix ix_tup (pv 0) pe_int (fun _ _ => rfl)) (pv 1) (by rfl)) (pss_one (ps_ret (pe_joined (PJ.cons pe_str (PJ.cons (pe_fmt (pe_cl G_condition_text hr (by omega) pasE (pa_cons (pv 0) pa_nil))) (PJ.cons pe_str PJ.nil)))))) pss_nil)
      (pss_one (ps_ret (pe_cl G_condition_text hr (by omega) pasE (pa_cons (pv 0) pa_nil))))), ?_⟩
  have e1 : tl ("[" : Str) = [91] := by decide +kernel
  have e2 : tl ("]" : Str) = [93] := by decide +kernel
  refine r_ix rfl hq (atI_nat (j := 0) rfl) ?_
  refine ⟨_, rfl, b, _, rfl, seq_tup hb, rfl, flat_strs ws, _, rfl, ?_⟩
  refine ite2 (fun c => ?_) (fun c => ?_)
  · have c' : ws.contains (wd n) = true := inV_str.symm.trans c
    refine j_lit (l := []) (by rw [e1]; simp) ?_
    refine ⟨_, rfl, _, n, rfl, dn, hw, hd, by omega, fun H' s' => ?_⟩
    refine j_str (by rw [e1]; simp only [List.length_append, List.length_cons, List.length_nil]; omega) rfl ?_
    refine j_lit (by rw [e1, e2]; simp only [List.length_append, List.length_cons, List.length_nil]; omega) ?_
    have q := k H' s'
    rw [c'] at q
    show Q (.str (sS _)) H'
    rw [e1, e2]
    simpa [bx] using q
  · have c' : ws.contains (wd n) = false := inV_str.symm.trans (Bool.eq_false_iff.mpr c)
    refine ⟨_, rfl, _, n, rfl, dn, hw, hd, by omega, fun H' s' => ?_⟩
    have q := k H' s'
    rw [c'] at q
    exact q
theorem br_or (n : Nd) : (["or"] : List Str).contains (wd n) = isOr n := by
  cases n with
  | near b k t => cases b <;> (dsimp only [wd, isOr]; decide +kernel)
  | pick b k t => cases b <;> (dsimp only [wd, isOr]; decide +kernel)
  | _ => dsimp only [wd, isOr]; decide +kernel
theorem br_ao (n : Nd) : (["and", "or"] : List Str).contains (wd n) = isAO n := by
  cases n with
  | near b k t => cases b <;> (dsimp only [wd, isAO]; decide +kernel)
  | pick b k t => cases b <;> (dsimp only [wd, isAO]; decide +kernel)
  | _ => dsimp only [wd, isAO]; decide +kernel
theorem bx_len (b : Bool) (l : List Nat) : (bx b l).length ≤ l.length + 2 ∧ l.length ≤ (bx b l).length := by
  cases b
  · exact ⟨Nat.le_add_right _ _, Nat.le_refl _⟩
  · show (91 :: (l ++ [93])).length ≤ _ ∧ _ ≤ (91 :: (l ++ [93])).length
    simp only [List.length_append, List.length_cons, List.length_nil]
    omega
theorem r_ntup {H : Hp} {σ : L2.St} {j : Nat} {D : Ends} {A : TS} {w u1 u2 u3 : Str} (hj : σ[j]? = some (some (.str w))) (h : (["called", "missed", "filed"] : List Str).contains w = false) (k : ∀ H', Same H H' → D.nx σ H') :
    tIfS (tTest (tOp (rIn K false) (tVar j) (tTup (tCons (tC (.str "called")) (tCons (tC (.str "missed")) (tCons (tC (.str "filed")) tNil)))))) A tNext D σ H := by
  refine ⟨_, hj, by show 3 ≤ sizeLine; decide, fun b nb => ⟨b, _, rfl, seq_tup upd_same, rfl, rfl, _, rfl, ?_⟩⟩
  have e : inV (.str w) ((["called", "missed", "filed"] : List Str).map V.str) = false := inV_str.trans h
  refine ite2 (fun c => ?_) (fun c => k _ (same_upd nb))
  exact absurd (e.symm.trans c) (by decide)
theorem ok_condition_text (T : Tp w K mg) {d : Nat} (G_term_text : Cl P w K mg base (2 * d + 1) "term_text" P_term_text (spTx K true d)) (G_condition_text : Cl P w K mg base (2 * d + 1) "condition_text" P_condition_text (spTx K false d)) :
    Cl P w K mg base (2 * (d + 1) + 1) "condition_text" P_condition_text (spTx K false (d + 1)) := by
  have G_bracketed := ok_bracketed T G_condition_text
  refine cl_of T.f_condition_text T.g_condition_text sc_condition_text (fun _ F => b_condition_text F) len_tx (fun cdv A outer s H vs Q E hr h => ?_)
  obtain ⟨v, n, rfl, dn, hw, hd, hl, k⟩ := h
  rw [enc_eq] at dn
  obtain ⟨a, xs, rfl, hq, dt⟩ := dp_tup dn
  obtain ⟨x0, r0, rfl, d0, da⟩ := dp_all dt
  obtain rfl := dp_str d0
  refine ⟨_, (pss_cons (ps_set (i := 1) sc_condition_text.nd rfl (Or.inl rfl) (pe_ix ix_tup (pv 0) pe_int (fun _ _ => rfl)))
      (pss_cons (ps_if (pt_cmpR op_eq (pv 1) pe_str (nomark _)) (pss_one (ps_ret (pe_joined (PJ.cons (pe_fmt (pe_cl G_term_text hr (by omega) pasE (pa_cons (pe_ix ix_tup (pv 0) pe_int (fun _ _ => rfl)) pa_nil))) (PJ.cons pe_str (PJ.cons (pe_fmt (pe_cl G_term_text hr (by omega) pasE (pa_cons (pe_ix ix_tup (pv 0) pe_int (fun _ _ => rfl)) pa_nil))) PJ.nil)))))) pss_nil)
      (pss_cons (ps_if (pt_cmpR op_eq (pv 1) pe_str (nomark _)) (pss_one (ps_ret (pe_joined (PJ.cons pe_str (PJ.cons (pe_fmt (pe_ix ix_tup (pv 0) pe_int (fun _ _ => rfl))) (PJ.cons pe_str (PJ.cons (pe_fmt (pe_cl G_term_text hr (by omega) pasE (pa_cons (pe_ix ix_tup (pv 0) pe_int (fun _ _ => rfl)) pa_nil))) (PJ.cons pe_str PJ.nil)))))))) pss_nil)
      (pss_cons (ps_if (pt_cmpR op_eq (pv 1) pe_str (nomark _)) (pss_one (ps_ret (pe_joined (PJ.cons pe_str (PJ.cons (pe_fmt (pe_ix ix_tup (pv 0) pe_int (fun _ _ => rfl))) PJ.nil))))) pss_nil)
      (pss_cons (ps_if (pt_cmpR op_eq (pv 1) pe_str (nomark _)) (pss_one (ps_ret (pv 1))) pss_nil)
      (pss_cons (ps_if (pt_cmpR op_in_seq (pv 1) (pe_tup (pa_cons pe_str (pa_cons pe_str (pa_cons pe_str pa_nil)))) (by rfl)) (pss_one (ps_ret (pe_joined (PJ.cons (pe_fmt (pv 1)) (PJ.cons pe_str (PJ.cons (pe_fmt (pe_ix ix_tup (pv 0) pe_int (fun _ _ => rfl))) PJ.nil)))))) pss_nil)
      (pss_cons (ps_if (pt_cmpR op_eq (pv 1) pe_str (nomark _)) (pss_one (ps_ret (pe_op op_add_str pe_str (pe_cl G_bracketed hr (by omega) pasE (pa_cons (pe_ix ix_tup (pv 0) pe_int (fun _ _ => rfl)) (pa_cons (pe_tup (pa_cons pe_str (pa_cons pe_str pa_nil))) pa_nil)))))) pss_nil)
      (pss_cons (ps_if (pt_cmpR op_eq (pv 1) pe_str (nomark _)) (pss_one (ps_ret (pe_op op_add_str (pe_op op_add_str (pe_cl G_bracketed hr (by omega) pasE (pa_cons (pe_ix ix_tup (pv 0) pe_int (fun _ _ => rfl)) (pa_cons (pe_tup (pa_cons pe_str pa_nil)) pa_nil))) pe_str) (pe_cl G_bracketed hr (by omega) pasE (pa_cons (pe_ix ix_tup (pv 0) pe_int (fun _ _ => rfl)) (pa_cons (pe_tup (pa_cons pe_str (pa_cons pe_str pa_nil))) pa_nil)))))) pss_nil)
      (pss_one (ps_ret (pe_op op_add_str (pe_op op_add_str (pe_cl G_condition_text hr (by omega) pasE (pa_cons (pe_ix ix_tup (pv 0) pe_int (fun _ _ => rfl)) pa_nil)) pe_str) (pe_cl G_bracketed hr (by omega) pasE (pa_cons (pe_ix ix_tup (pv 0) pe_int (fun _ _ => rfl)) (pa_cons (pe_tup (pa_cons pe_str pa_nil)) pa_nil)))))))))))))), ?_⟩
  refine r_ix rfl hq (atI_nat (j := 0) rfl) ?_
  cases n with
  | day | num | plus | near | nth | pick | ite => exact absurd hw id
  | le t u =>
    obtain ⟨x1, r1, rfl, d1, da1⟩ := dp_all da
    obtain ⟨x2, r2, rfl, d2, da2⟩ := dp_all da1
    have hd' : max (depth t) (depth u) + 1 ≤ d + 1 := hd
    have hpx : px (.le t u) = px t ++ 32 :: 60 :: 61 :: 32 :: px u := rfl
    have hl' := hl
    rw [hpx] at hl'
    simp only [List.length_append, List.length_cons, List.length_nil] at hl'
    have e1 : tl (" <= " : Str) = [32, 60, 61, 32] := by decide +kernel
    refine r_yes rfl (by dsimp only [wd]; decide +kernel) ?_
    refine r_ix rfl hq (atI_nat (j := 1) rfl) ?_
    refine ⟨x1, t, rfl, d1, hw.1, by omega, by omega, fun H1 s1 => ?_⟩
    refine j_str (l := []) (by simp only [List.length_nil]; omega) rfl ?_
    refine j_lit (by rw [e1]; simp only [List.length_append, List.length_cons, List.length_nil]; omega) ?_
    refine r_ix rfl (same_sqt s1 hq) (atI_nat (j := 2) rfl) ?_
    refine ⟨x2, u, rfl, Dp.same s1 d2, hw.2, by omega, by omega, fun H2 s2 => ?_⟩
    refine j_str (by rw [e1]; simp only [List.length_append, List.length_cons, List.length_nil]; omega) rfl ?_
    have q := k H2 (s1.trans s2)
    show Q (.str (sS _)) H2
    rw [e1]
    rw [hpx] at q
    simpa using q
  | isO z t =>
    obtain ⟨x1, r1, rfl, d1, da1⟩ := dp_all da
    obtain ⟨x2, r2, rfl, d2, da2⟩ := dp_all da1
    obtain rfl := dp_str d1
    have hd' : depth t + 1 ≤ d + 1 := hd
    have ez : (tl ("is" : Str)).length = 2 := by decide +kernel
    have hpx : px (.isO z t) = tl ("is" : Str) ++ 32 :: (tl z ++ 40 :: (px t ++ [41])) := rfl
    have hl' := hl
    rw [hpx] at hl'
    simp only [List.length_append, List.length_cons, List.length_nil, ez] at hl'
    have e0 : tl ("is " : Str) = tl ("is" : Str) ++ [32] := by decide +kernel
    have e2 : tl ("(" : Str) = [40] := by decide +kernel
    have e3 : tl (")" : Str) = [41] := by decide +kernel
    refine r_no rfl (by dsimp only [wd]; decide +kernel) ?_
    refine r_yes rfl (by dsimp only [wd]; decide +kernel) ?_
    refine j_lit (l := []) (by rw [e0]; simp only [List.length_append, List.length_cons, List.length_nil, ez]; omega) ?_
    refine r_ix rfl hq (atI_nat (j := 1) rfl) ?_
    refine j_str (m := tl z) (by rw [e0]; simp only [List.length_append, List.length_cons, List.length_nil, ez]; omega) (sS_tl _).symm ?_
    refine j_lit (by rw [e0, e2]; simp only [List.length_append, List.length_cons, List.length_nil, ez]; omega) ?_
    refine r_ix rfl hq (atI_nat (j := 2) rfl) ?_
    refine ⟨x2, t, rfl, d2, hw.2, by omega, by omega, fun H' s' => ?_⟩
    refine j_str (by rw [e0, e2]; simp only [List.length_append, List.length_cons, List.length_nil, ez]; omega) rfl ?_
    refine j_lit (by rw [e0, e2, e3]; simp only [List.length_append, List.length_cons, List.length_nil, ez]; omega) ?_
    have q := k H' s'
    show Q (.str (sS _)) H'
    rw [e0, e2, e3]
    rw [hpx] at q
    simpa using q
  | flag z =>
    obtain ⟨x1, r1, rfl, d1, da1⟩ := dp_all da
    obtain rfl := dp_str d1
    have hl' : (tl z).length + 1 ≤ 1000000 := hl
    have ea : tl ("?" : Str) = [63] := by decide +kernel
    refine r_no rfl (by dsimp only [wd]; decide +kernel) ?_
    refine r_no rfl (by dsimp only [wd]; decide +kernel) ?_
    refine r_yes rfl (by dsimp only [wd]; decide +kernel) ?_
    refine j_lit (l := []) (by rw [ea]; simp) ?_
    refine r_ix rfl hq (atI_nat (j := 1) rfl) ?_
    refine j_str (m := tl z) (by rw [ea]; simp only [List.length_append, List.length_cons, List.length_nil]; omega) (sS_tl _).symm ?_
    have q := k H (Same.refl H)
    show Q (.str (sS _)) H
    rw [ea]
    exact q
  | yes =>
    refine r_no rfl (by dsimp only [wd]; decide +kernel) ?_
    refine r_no rfl (by dsimp only [wd]; decide +kernel) ?_
    refine r_no rfl (by dsimp only [wd]; decide +kernel) ?_
    refine r_yes rfl (by dsimp only [wd]; decide +kernel) ?_
    have q := k H (Same.refl H)
    exact ⟨_, rfl, q⟩
  | neg c =>
    obtain ⟨x1, r1, rfl, d1, da1⟩ := dp_all da
    have hd' : depth c + 1 ≤ d + 1 := hd
    have ez : (tl ("not" : Str)).length = 3 := by decide +kernel
    have hpx : px (.neg c) = tl ("not" : Str) ++ 32 :: bx (isAO c) (px c) := rfl
    have hl' := hl
    rw [hpx] at hl'
    simp only [List.length_append, List.length_cons, ez] at hl'
    have e0 : ("not " : Str) = sS (tl ("not" : Str) ++ [32]) := by decide +kernel
    have hb := bx_len (isAO c) (px c)
    refine r_no rfl (by dsimp only [wd]; decide +kernel) ?_
    refine r_no rfl (by dsimp only [wd]; decide +kernel) ?_
    refine r_no rfl (by dsimp only [wd]; decide +kernel) ?_
    refine r_no rfl (by dsimp only [wd]; decide +kernel) ?_
    refine r_ntup (u1 := "") (u2 := "") (u3 := "") rfl (by dsimp only [wd]; decide +kernel) fun H1 s1 => ?_
    refine r_yes rfl (by dsimp only [wd]; decide +kernel) ?_
    refine r_ix rfl (same_sqt s1 hq) (atI_nat (j := 1) rfl) ?_
    refine ⟨by show 2 ≤ sizeLine; decide, fun b nb => ?_⟩
    have s2 := same_upd (o := .tup [.str "and", .str "or"]) nb
    refine ⟨x1, b, ["and", "or"], c, rfl, upd_same, Dp.same (s1.trans s2) d1, hw, by omega, by omega, fun H' s' => ?_⟩
    rw [br_ao]
    refine ⟨_, _, rfl, rfl, ?_, ?_⟩
    · rw [e0, sS_len, sS_len]
      simp only [List.length_append, List.length_cons, List.length_nil, ez]
      exact sl6 (by omega)
    · have q := k H' ((s1.trans s2).trans s')
      rw [e0, sS_app]
      rw [hpx] at q
      simpa using q
  | conj c e =>
    obtain ⟨x1, r1, rfl, d1, da1⟩ := dp_all da
    obtain ⟨x2, r2, rfl, d2, da2⟩ := dp_all da1
    have hd' : max (depth c) (depth e) + 1 ≤ d + 1 := hd
    have ez : (tl ("and" : Str)).length = 3 := by decide +kernel
    have hpx : px (.conj c e) = bx (isOr c) (px c) ++ 32 :: (tl ("and" : Str) ++ 32 :: bx (isAO e) (px e)) := rfl
    have hl' := hl
    rw [hpx] at hl'
    simp only [List.length_append, List.length_cons, ez] at hl'
    have e0 : (" and " : Str) = sS (32 :: (tl ("and" : Str) ++ [32])) := by decide +kernel
    have hb1 := bx_len (isOr c) (px c)
    have hb2 := bx_len (isAO e) (px e)
    refine r_no rfl (by dsimp only [wd]; decide +kernel) ?_
    refine r_no rfl (by dsimp only [wd]; decide +kernel) ?_
    refine r_no rfl (by dsimp only [wd]; decide +kernel) ?_
    refine r_no rfl (by dsimp only [wd]; decide +kernel) ?_
    refine r_ntup (u1 := "") (u2 := "") (u3 := "") rfl (by dsimp only [wd]; decide +kernel) fun H1 s1 => ?_
    refine r_no rfl (by dsimp only [wd]; decide +kernel) ?_
    refine r_yes rfl (by dsimp only [wd]; decide +kernel) ?_
    refine r_ix rfl (same_sqt s1 hq) (atI_nat (j := 1) rfl) ?_
    refine ⟨by show 1 ≤ sizeLine; decide, fun b nb => ?_⟩
    have s2 := s1.trans (same_upd (o := .tup [.str "or"]) nb)
    refine ⟨x1, b, ["or"], c, rfl, upd_same, Dp.same s2 d1, hw.1, by omega, by omega, fun H3 s3 => ?_⟩
    rw [br_or]
    have s3 := s2.trans s3
    refine ⟨_, _, rfl, rfl, ?_, ?_⟩
    · rw [e0, sS_len, sS_len]
      simp only [List.length_append, List.length_cons, List.length_nil, ez]
      exact sl6 (by omega)
    refine r_ix rfl (same_sqt s3 hq) (atI_nat (j := 2) rfl) ?_
    refine ⟨by show 2 ≤ sizeLine; decide, fun b' nb' => ?_⟩
    have s4 := s3.trans (same_upd (o := .tup [.str "and", .str "or"]) nb')
    refine ⟨x2, b', ["and", "or"], e, rfl, upd_same, Dp.same s4 d2, hw.2, by omega, by omega, fun H5 s5 => ?_⟩
    rw [br_ao]
    refine ⟨_, _, rfl, rfl, ?_, ?_⟩
    · rw [e0, sS_app, sS_len, sS_len]
      simp only [List.length_append, List.length_cons, List.length_nil, ez]
      exact sl6 (by omega)
    · have q := k H5 (s4.trans s5)
      rw [e0, sS_app, sS_app]
      rw [hpx] at q
      simpa using q
  | disj c e =>
    obtain ⟨x1, r1, rfl, d1, da1⟩ := dp_all da
    obtain ⟨x2, r2, rfl, d2, da2⟩ := dp_all da1
    have hd' : max (depth c) (depth e) + 1 ≤ d + 1 := hd
    have ez : (tl ("or" : Str)).length = 2 := by decide +kernel
    have hpx : px (.disj c e) = px c ++ 32 :: (tl ("or" : Str) ++ 32 :: bx (isOr e) (px e)) := rfl
    have hl' := hl
    rw [hpx] at hl'
    simp only [List.length_append, List.length_cons, ez] at hl'
    have e0 : (" or " : Str) = sS (32 :: (tl ("or" : Str) ++ [32])) := by decide +kernel
    have hb2 := bx_len (isOr e) (px e)
    refine r_no rfl (by dsimp only [wd]; decide +kernel) ?_
    refine r_no rfl (by dsimp only [wd]; decide +kernel) ?_
    refine r_no rfl (by dsimp only [wd]; decide +kernel) ?_
    refine r_no rfl (by dsimp only [wd]; decide +kernel) ?_
    refine r_ntup (u1 := "") (u2 := "") (u3 := "") rfl (by dsimp only [wd]; decide +kernel) fun H1 s1 => ?_
    refine r_no rfl (by dsimp only [wd]; decide +kernel) ?_
    refine r_no rfl (by dsimp only [wd]; decide +kernel) ?_
    refine r_ix rfl (same_sqt s1 hq) (atI_nat (j := 1) rfl) ?_
    refine ⟨x1, c, rfl, Dp.same s1 d1, hw.1, by omega, by omega, fun H3 s3 => ?_⟩
    have s3 := s1.trans s3
    refine ⟨_, _, rfl, rfl, ?_, ?_⟩
    · rw [e0, sS_len, sS_len]
      simp only [List.length_append, List.length_cons, List.length_nil, ez]
      exact sl6 (by omega)
    refine r_ix rfl (same_sqt s3 hq) (atI_nat (j := 2) rfl) ?_
    refine ⟨by show 1 ≤ sizeLine; decide, fun b' nb' => ?_⟩
    have s4 := s3.trans (same_upd (o := .tup [.str "or"]) nb')
    refine ⟨x2, b', ["or"], e, rfl, upd_same, Dp.same s4 d2, hw.2, by omega, by omega, fun H5 s5 => ?_⟩
    rw [br_or]
    refine ⟨_, _, rfl, rfl, ?_, ?_⟩
    · rw [e0, sS_app, sS_len, sS_len]
      simp only [List.length_append, List.length_cons, List.length_nil, ez]
      exact sl6 (by omega)
    · have q := k H5 (s4.trans s5)
      rw [e0, sS_app, sS_app]
      rw [hpx] at q
      simpa using q
theorem texts (T : Tp w K mg) : ∀ d : Nat, Cl P w K mg base (2 * d + 1) "term_text" P_term_text (spTx K true d) ∧ Cl P w K mg base (2 * d + 1) "condition_text" P_condition_text (spTx K false d)
  | 0 => by
    have no : ∀ {b : Bool} {vs : List V} {H : Hp} {Q : VK} {E : XK}, spTx K b 0 vs H Q E → False := fun h => by
      obtain ⟨v, n, _, _, _, hd, _⟩ := h
      have := depth_pos n
      omega
    exact ⟨cl_of T.f_term_text T.g_term_text sc_term_text (fun _ F => b_term_text F) len_tx (fun cdv A outer s H vs Q E hr h => (no h).elim), cl_of T.f_condition_text T.g_condition_text sc_condition_text (fun _ F => b_condition_text F) len_tx (fun cdv A outer s H vs Q E hr h => (no h).elim)⟩
  | d + 1 => by
    obtain ⟨h1, h2⟩ := texts T d
    exact ⟨ok_term_text T h1 h2, ok_condition_text T h1 h2⟩
end
end KT

namespace KT
open PySem PySem.Spec
open PyProof.Rows L2 KM
/-- a row of small numbers -/
def RowAt (H : Hp) (a : Addr) : Prop := ∃ xs : List Int, H a = some (.lst (xs.map V.int)) ∧ (∀ x ∈ xs, 0 ≤ x ∧ x < 1009) ∧ xs.length ≤ 2520
def spRow (K : PySem.W.Frag) : Sp := fun vs H Q _ => ∃ (a : Addr) (ns : List Int), vs = [.ref a] ∧ SqL K H a (ns.map V.int) ∧ ns.length ≤ 63 ∧ ∀ D H', H D = none → Same H H' → RowAt H' D → Q (.ref D) H'
def spAt : Sp := fun vs H Q _ => ∃ (a : Addr) (i : Int), vs = [.ref a, .int i] ∧ RowAt H a ∧ ∀ y : Int, 0 ≤ y → y < 1009 → Q (.int y) H
/-- state: a list of one number -/
def spNext : Sp := fun vs H Q _ => ∃ (a b : Addr) (i : Int), vs = [.ref a, .ref b] ∧ a ≠ b ∧ RowAt H a ∧ H b = some (.lst [.int i]) ∧ ∀ (y : Int) H', 0 ≤ y → y < 1009 → But b H H' → H' b = some (.lst [.int (i + 1)]) → Q (.int y) H'
section
variable {P : Program} {w : World} {K : PySem.W.Frag} {mg : Str → Option Value} {base : Heap}
theorem ok__law_at (T : Tp w K mg) : Cl P w K mg base 1 "_law_at" P__law_at spAt := by
  refine cl_of T.f__law_at T.g__law_at sc__law_at (fun _ F => b__law_at F) (fun vs H Q E h => ?_) (fun cdv A outer s H vs Q E hr h => ?_)
  · obtain ⟨a, i, rfl, _⟩ := h
    rfl
  obtain ⟨a, i, rfl, ⟨xs, ha, hx, hl⟩, k⟩ := h
  refine ⟨_, (pss_cons (ps_if (pt_chain op_le op_lt pe_int (pv 1) (pe_callB call_len_seq rfl T.z_len PySem.boot_len (pa_cons (pv 0) pa_nil))) (pss_one (ps_ret (pe_ix ix_list (pv 0) (pv 1) (fun _ _ => rfl)))) pss_nil)
      (pss_one (ps_ret pe_int))), ?_⟩
  refine ⟨_, rfl, _, _, rfl, rfl, _, rfl, ?_⟩
  have k0 : Q (.int 0) H := k 0 (by omega) (by omega)
  refine ite2 (fun c => ?_) (fun c => ⟨_, rfl, iteF k0⟩)
  have c1 : 0 ≤ i := of_decide_eq_true c
  refine ⟨_, rfl, a, _, rfl, .inl (SqL.of ha), _, _, rfl, rfl, _, rfl, ?_⟩
  rw [List.length_map]
  refine ite2 (fun c => ?_) (fun c => k0)
  have c2 : i < (xs.length : Int) := of_decide_eq_true c
  obtain ⟨n, rfl⟩ := Int.eq_ofNat_of_zero_le c1
  have hn : n < xs.length := by omega
  have hm := hx xs[n] (List.getElem_mem hn)
  exact ⟨_, rfl, _, rfl, a, _, n, .int xs[n], rfl, rfl, SqL.of ha, atI_nat (by rw [List.getElem?_map, List.getElem?_eq_getElem hn]; rfl), k _ hm.1 hm.2⟩
theorem ok__law_next (T : Tp w K mg) : Cl P w K mg base 2 "_law_next" P__law_next spNext := by
  have G__law_at := ok__law_at (P := P) (base := base) T
  refine cl_of T.f__law_next T.g__law_next sc__law_next (fun _ F => b__law_next F) (fun vs H Q E h => ?_) (fun cdv A outer s H vs Q E hr h => ?_)
  · obtain ⟨a, b, i, rfl, _⟩ := h
    rfl
  obtain ⟨a, b, i, rfl, hab, ⟨xs, ha, hx, hl⟩, hb, k⟩ := h
  refine ⟨_, (pss_cons (ps_asg (pe_op op_add (pe_ix ix_list (pv 1) pe_int (fun _ _ => rfl)) pe_int) (pg_sub (pv 1) pe_int set_list))
      (pss_one (ps_ret (pe_callTy call_int1 rfl T.z_int (by decide +kernel) (pa_cons (pe_cl G__law_at hr (by omega) pasE (pa_cons (pv 0) (pa_cons (pe_ix ix_list (pv 1) pe_int (fun _ _ => rfl)) pa_nil))) pa_nil))))), ?_⟩
  refine ⟨_, rfl, b, _, 0, _, rfl, rfl, SqL.of hb, atI_nat (j := 0) rfl, _, _, rfl, rfl, ?_⟩
  refine ⟨_, rfl, b, _, 0, 0, rfl, rfl, hb, rfl, ?_⟩
  have hb' : (upd H b (.lst (([V.int i] : List V).set 0 (.int (i + 1))))) b = some (.lst [.int (i + 1)]) := upd_same
  refine ⟨_, rfl, _, rfl, b, _, 0, _, rfl, rfl, SqL.of hb', atI_nat (j := 0) rfl, ?_⟩
  exact ⟨a, _, rfl, ⟨xs, by rw [upd_ne hab]; exact ha, hx, hl⟩, fun y h1 h2 => .inl ⟨y, rfl, k y _ h1 h2 but_upd hb'⟩⟩
theorem ok__law_row (T : Tp w K mg) : Cl P w K mg base 1 "_law_row" P__law_row (spRow K) := by
  refine cl_of T.f__law_row T.g__law_row sc__law_row (fun _ F => b__law_row F) (fun vs H Q E h => ?_) (fun cdv A outer s H vs Q E hr h => ?_)
  · obtain ⟨a, ns, rfl, _⟩ := h
    rfl
  obtain ⟨a, ns, rfl, hq, hl, k⟩ := h
  refine ⟨_, (pss_cons (ps_set (i := 1) sc__law_row.nd rfl (Or.inl rfl) (pe_lst pa_nil))
      (pss_cons (ps_for pOwn rfl (pi_range1 rfl T.z_range (pa_cons (pe_callB call_len_seq rfl T.z_len PySem.boot_len (pa_cons (pv 0) pa_nil)) pa_nil)) (pg_name (i := 2) sc__law_row.nd rfl (Or.inl rfl)) (pss_cons (ps_set (i := 3) sc__law_row.nd rfl (Or.inl rfl) (pe_callB call_abs rfl T.z_abs (by decide +kernel) (pa_cons (pe_callTy call_int1 rfl T.z_int (by decide +kernel) (pa_cons (pe_ix ix_list (pv 0) (pv 2) (fun _ _ => rfl)) pa_nil)) pa_nil)))
      (pss_one (ps_if (pt_cmpR op_ge (pv 3) (pe_op op_pow pe_int pe_int) (nomark _)) (pss_one (ps_for pOwn rfl (pi_range1 rfl T.z_range (pa_cons pe_int pa_nil)) (pg_name (i := 4) sc__law_row.nd rfl (Or.inl rfl)) (pss_one (ps_if (pt_cmpR op_gt (pv 3) pe_int (nomark _)) (pss_cons (ps_expr (pe_bm PySem.F.plainAttrs_list PySem.F.slot_list_append PySem.F.type_list_append mt_append (pv 1) (pa_cons (pe_op op_mod (pe_callTy call_int1 rfl T.z_int (by decide +kernel) (pa_cons (pv 3) pa_nil)) pe_int) pa_nil)))
      (pss_one (ps_set (i := 3) sc__law_row.nd rfl (Or.inl rfl) (pe_op op_fdiv (pv 3) pe_int)))) pss_nil)))) (pss_cons (ps_set (i := 5) sc__law_row.nd rfl (Or.inl rfl) (pe_op op_mod (pe_callTy call_int1 rfl T.z_int (by decide +kernel) (pa_cons (pe_op op_add (pe_op op_add (pe_op op_mul (pv 3) pe_int) (pe_op op_mul (pv 2) pe_int)) pe_int) pa_nil)) pe_int))
      (pss_one (ps_for pOwn rfl (pi_range1 rfl T.z_range (pa_cons pe_int pa_nil)) (pg_name (i := 4) sc__law_row.nd rfl (Or.inl rfl)) (pss_cons (ps_set (i := 5) sc__law_row.nd rfl (Or.inl rfl) (pe_op op_mod (pe_callTy call_int1 rfl T.z_int (by decide +kernel) (pa_cons (pe_op op_add (pe_op op_add (pe_op op_mul (pv 5) pe_int) (pe_op op_mul pe_int (pv 4))) pe_int) pa_nil)) pe_int))
      (pss_one (ps_expr (pe_bm PySem.F.plainAttrs_list PySem.F.slot_list_append PySem.F.type_list_append mt_append (pv 1) (pa_cons (pe_op op_mod (pe_callTy call_int1 rfl T.z_int (by decide +kernel) (pa_cons (pe_op op_fdiv (pv 5) pe_int) pa_nil)) pe_int) pa_nil))))))))))))
      (pss_one (ps_ret (pv 1))))), ?_⟩
  refine ⟨by show 0 ≤ sizeLine; decide, fun D nD => ?_⟩
  refine ⟨_, rfl, a, _, rfl, .inl (Same.seq (same_upd nD) hq), _, rfl, by rw [List.length_map]; omega, by rw [List.length_map]; omega, ?_⟩
  rw [List.length_map, Int.toNat_natCast]
  refine ⟨fun i m σ H' => m = ns.length - i ∧ i ≤ ns.length ∧ ∃ (x2 x3 x4 x5 : Option V) (xs : List Int), σ = [some (.ref a), some (.ref D), x2, x3, x4, x5] ∧ Same H H' ∧ H' D = some (.lst (xs.map V.int)) ∧ (∀ x ∈ xs, 0 ≤ x ∧ x < 1009) ∧ xs.length ≤ 40 * i,
    ⟨_, rfl, Nat.zero_le _, _, _, _, _, [], rfl, same_upd nD, upd_same, by simp, by simp⟩, ?_⟩
  rintro i m σ H' ⟨rfl, hi, x2, x3, x4, x5, xs, rfl, hs, hD, hx, hlen⟩
  by_cases lt : i < ns.length
  · refine .inr ⟨lt, fun σ' H2 => ∃ (x2 x3 x4 x5 : Option V) (xs : List Int), σ' = [some (.ref a), some (.ref D), x2, x3, x4, x5] ∧ Same H H2 ∧ H2 D = some (.lst (xs.map V.int)) ∧ (∀ x ∈ xs, 0 ≤ x ∧ x < 1009) ∧ xs.length ≤ 40 * (i + 1), fun σ' H2 ⟨x2, x3, x4, x5, xs, g⟩ => ⟨_, by omega, rfl, lt, x2, x3, x4, x5, xs, g⟩, fun x H2 y => ?_⟩
    obtain ⟨rfl, rfl⟩ := y
    rw [show (0 : Int) + (i : Int) = (i : Int) by omega]
    refine ⟨_, rfl, _, rfl, a, _, i, .int ns[i], rfl, rfl, Same.seq hs hq, atI_nat (by rw [List.getElem?_map, List.getElem?_eq_getElem lt]; rfl), .inl ⟨_, rfl, _, rfl, ?_⟩⟩
    generalize (if ns[i] < 0 then -ns[i] else ns[i]) = c
    refine ⟨_, rfl, _, _, rfl, rfl, ⟨by decide, by decide, by decide⟩, _, _, rfl, rfl, _, rfl, ?_⟩
    refine ite2 (fun _ => ?_) (fun _ => ?_)
    · refine ⟨40, rfl, by decide, by decide, ?_⟩
      refine ⟨fun i' m σ H' => m = 40 - i' ∧ i' ≤ 40 ∧ ∃ (c : Int) (x4 : Option V) (xs : List Int), σ = [some (.ref a), some (.ref D), some (.int (i : Int)), some (.int c), x4, x5] ∧ Same H H' ∧ H' D = some (.lst (xs.map V.int)) ∧ (∀ x ∈ xs, 0 ≤ x ∧ x < 1009) ∧ xs.length ≤ 40 * i + i',
        ⟨_, rfl, Nat.zero_le _, c, x4, xs, rfl, hs, hD, hx, by omega⟩, ?_⟩
      rintro i' m σ H' ⟨rfl, hi', c, x4, xs, rfl, hs, hD, hx, hlen⟩
      by_cases lt' : i' < 40
      · refine .inr ⟨lt', fun σ' H2 => ∃ (c : Int) (x4 : Option V) (xs : List Int), σ' = [some (.ref a), some (.ref D), some (.int (i : Int)), some (.int c), x4, x5] ∧ Same H H2 ∧ H2 D = some (.lst (xs.map V.int)) ∧ (∀ x ∈ xs, 0 ≤ x ∧ x < 1009) ∧ xs.length ≤ 40 * i + (i' + 1), fun σ' H2 ⟨c, x4, xs, g⟩ => ⟨_, by omega, rfl, lt', c, x4, xs, g⟩, fun x H2 y => ?_⟩
        obtain ⟨rfl, rfl⟩ := y
        refine ⟨_, rfl, _, _, rfl, rfl, _, rfl, ?_⟩
        refine ite2 (fun _ => ?_) (fun _ => ⟨c, _, xs, rfl, hs, hD, hx, by omega⟩)
        refine ⟨_, rfl, .inl ⟨rfl, _, SqL.of hD⟩, _, rfl, .inl ⟨_, rfl, _, _, rfl, rfl, by show (0 : Int) < 1009; decide, D, _, _, rfl, rfl, hD, ?_, ?_⟩⟩
        · rw [List.length_map]; exact Nat.lt_of_le_of_lt (show xs.length ≤ 1000000 by omega) (by decide)
        refine ⟨_, rfl, _, _, rfl, rfl, ⟨by decide, by decide⟩, ?_⟩
        refine ⟨c / 1009, _, xs ++ [c % 1009], rfl, fun b o q => ?_, ?_, ?_, ?_⟩
        · rw [upd_ne (ne_of_none q nD)]; exact hs b o q
        · rw [upd_same, List.map_append]; rfl
        · intro x hm
          rcases List.mem_append.mp hm with hm | hm
          · exact hx x hm
          · obtain rfl := List.mem_singleton.mp hm
            omega
        · rw [List.length_append, List.length_singleton]; omega
      · exact .inl ⟨by show 40 ≤ i'; omega, _, _, _, _, xs, rfl, hs, hD, hx, by omega⟩
    · refine ⟨_, rfl, _, _, rfl, rfl, .inr ⟨by decide, by decide⟩, _, rfl, _, _, rfl, rfl, .inr ⟨by decide, by decide⟩, _, _, rfl, rfl, _, _, rfl, rfl, .inl ⟨_, rfl, _, _, rfl, rfl, by show (0 : Int) < 2147483647; decide, ?_⟩⟩
      refine ⟨6, rfl, by decide, by decide, ?_⟩
      refine ⟨fun i' m σ H' => m = 6 - i' ∧ i' ≤ 6 ∧ ∃ (e : Int) (x4 : Option V) (xs : List Int), σ = [some (.ref a), some (.ref D), some (.int (i : Int)), some (.int c), x4, some (.int e)] ∧ Same H H' ∧ H' D = some (.lst (xs.map V.int)) ∧ (∀ x ∈ xs, 0 ≤ x ∧ x < 1009) ∧ xs.length ≤ 40 * i + i',
        ⟨_, rfl, Nat.zero_le _, _, x4, xs, rfl, hs, hD, hx, by omega⟩, ?_⟩
      rintro i' m σ H' ⟨rfl, hi', e, x4, xs, rfl, hs, hD, hx, hlen⟩
      by_cases lt' : i' < 6
      · refine .inr ⟨lt', fun σ' H2 => ∃ (e : Int) (x4 : Option V) (xs : List Int), σ' = [some (.ref a), some (.ref D), some (.int (i : Int)), some (.int c), x4, some (.int e)] ∧ Same H H2 ∧ H2 D = some (.lst (xs.map V.int)) ∧ (∀ x ∈ xs, 0 ≤ x ∧ x < 1009) ∧ xs.length ≤ 40 * i + (i' + 1), fun σ' H2 ⟨e, x4, xs, g⟩ => ⟨_, by omega, rfl, lt', e, x4, xs, g⟩, fun x H2 y => ?_⟩
        obtain ⟨rfl, rfl⟩ := y
        refine ⟨_, rfl, _, _, rfl, rfl, .inr ⟨by decide, by decide⟩, _, rfl, _, _, rfl, rfl, .inl ⟨by decide, by decide⟩, _, _, rfl, rfl, _, _, rfl, rfl, .inl ⟨_, rfl, _, _, rfl, rfl, by show (0 : Int) < 2147483647; decide, ?_⟩⟩
        refine ⟨_, rfl, .inl ⟨rfl, _, SqL.of hD⟩, _, rfl, _, _, rfl, rfl, ⟨by decide, by decide⟩, .inl ⟨_, rfl, _, _, rfl, rfl, by show (0 : Int) < 1009; decide, D, _, _, rfl, rfl, hD, ?_, ?_⟩⟩
        · rw [List.length_map]; exact Nat.lt_of_le_of_lt (show xs.length ≤ 1000000 by omega) (by decide)
        refine ⟨_, _, xs ++ [((e * 16807 + 11 * (0 + (i' : Int)) + 1) % 2147483647 / 7) % 1009], rfl, fun b o q => ?_, ?_, ?_, ?_⟩
        · rw [upd_ne (ne_of_none q nD)]; exact hs b o q
        · rw [upd_same, List.map_append]; rfl
        · intro x hm
          rcases List.mem_append.mp hm with hm | hm
          · exact hx x hm
          · obtain rfl := List.mem_singleton.mp hm
            omega
        · rw [List.length_append, List.length_singleton]; omega
      · exact .inl ⟨by show 6 ≤ i'; omega, _, _, _, _, xs, rfl, hs, hD, hx, by omega⟩
  · refine .inl ⟨by show ns.length ≤ i; omega, _, rfl, k D H' nD hs ⟨xs, hD, hx, by omega⟩⟩
end
end KT

namespace KT
open PySem PySem.Spec
open PyProof.Rows L2 KM
/-- a row and a state that is read from it -/
structure Gn (H : Hp) (a s : Addr) : Prop where
  row : RowAt H a
  ne : a ≠ s
  st : ∃ i : Int, H s = some (.lst [.int i])
theorem Gn.same {H H' : Hp} {a s : Addr} (g : Gn H a s) (e : Same H H') : Gn H' a s := by
  obtain ⟨⟨xs, h1, h2⟩, h3, i, h4⟩ := g
  exact ⟨⟨xs, e _ _ h1, h2⟩, h3, i, e _ _ h4⟩
def spGen (K : PySem.W.Frag) (b : Bool) (d : Nat) : Sp := fun vs H Q _ => ∃ (a s : Addr) (e : Nat), vs = [.ref a, .ref s, .int ((e + 1 : Nat) : Int)] ∧ e + 1 ≤ d ∧ Gn H a s ∧ ∀ v n H', But s H H' → Gn H' a s → Dp K H' v (enc n) → wk b n → depth n ≤ e + 1 → Q v H'
theorem at_all {xs : List V} {i : Int} {Pr : V → Prop} (h : ∀ v ∈ xs, Pr v) (h0 : 0 ≤ i) (h1 : i < xs.length) : ∃ v, atI xs i = some v ∧ Pr v := by
  obtain ⟨n, rfl⟩ := Int.eq_ofNat_of_zero_le h0
  have hn : n < xs.length := by omega
  exact ⟨xs[n], atI_nat (List.getElem?_eq_getElem hn), h _ (List.getElem_mem hn)⟩
theorem names_ok {l : List Str} (h : l.all isName = true) : ∀ v ∈ l.map V.str, ∃ x, v = .str x ∧ isName x = true := fun v hv => by
  obtain ⟨x, hx, rfl⟩ := List.mem_map.mp hv
  exact ⟨x, rfl, List.all_eq_true.mp h x hx⟩
section
variable {P : Program} {w : World} {K : PySem.W.Frag} {mg : Str → Option Value} {base : Heap}
theorem Gn.keep {H H' : Hp} {a s : Addr} {v : V} {n : Nd} (g : Gn H a s) (b : But s H H') (d : Dp K H v (enc n)) : Dp K H' v (enc n) := by
  obtain ⟨i, h⟩ := g.st
  exact dkeep (b.keepT h) d (enc_nol n)
section
variable {σ : L2.St} {H : Hp} {m m' : Nat} {x z i j : Int} {A B : TS} {D : Ends}
theorem or2 (hm : σ[m]? = some (some (.int x))) (kA : x = i ∨ x = j → A D σ H) (kB : x ≠ i → x ≠ j → B D σ H) : tIfS (tOr (tTest (tOp rEq (tVar m) (tC (.int i)))) (tTest (tOp rEq (tVar m) (tC (.int j))))) A B D σ H := by
  refine ⟨_, hm, rfl, _, rfl, ?_⟩
  refine ite2 (fun c => iteT (kA (.inl (V.int.inj (of_decide_eq_true c))))) (fun c => ⟨_, hm, rfl, _, rfl, ?_⟩)
  refine ite2 (fun c' => kA (.inr (V.int.inj (of_decide_eq_true c')))) (fun c' => kB (fun e => c (decide_eq_true (congrArg V.int e))) fun e => c' (decide_eq_true (congrArg V.int e)))
theorem eq1 (hm : σ[m]? = some (some (.int x))) (kA : x = i → A D σ H) (kB : x ≠ i → B D σ H) : tIfS (tTest (tOp rEq (tVar m) (tC (.int i)))) A B D σ H := by
  refine ⟨_, hm, rfl, _, rfl, ?_⟩
  exact ite2 (fun c => kA (V.int.inj (of_decide_eq_true c))) (fun c => kB fun e => c (decide_eq_true (congrArg V.int e)))
theorem orL (hm : σ[m]? = some (some (.int x))) (hn : σ[m']? = some (some (.int z))) (kA : x ≤ i ∨ z < j → A D σ H) (kB : ¬ x ≤ i → ¬ z < j → B D σ H) :
    tIfS (tOr (tTest (tOp (rI0 fun i j => .bl (decide (i ≤ j))) (tVar m) (tC (.int i)))) (tTest (tOp (rI0 fun i j => .bl (decide (i < j))) (tVar m') (tC (.int j))))) A B D σ H := by
  refine ⟨_, hm, _, _, rfl, rfl, _, rfl, ?_⟩
  refine ite2 (fun c => iteT (kA (.inl (of_decide_eq_true c)))) (fun c => ⟨_, hn, _, _, rfl, rfl, _, rfl, ?_⟩)
  exact ite2 (fun c' => kA (.inr (of_decide_eq_true c'))) (fun c' => kB (of_decide_eq_false (Bool.eq_false_iff.mpr c)) (of_decide_eq_false (Bool.eq_false_iff.mpr c')))
theorem orE (hm : σ[m]? = some (some (.int x))) (hn : σ[m']? = some (some (.int z))) (kA : x ≤ i ∨ z = j → A D σ H) (kB : ¬ x ≤ i → z ≠ j → B D σ H) :
    tIfS (tOr (tTest (tOp (rI0 fun i j => .bl (decide (i ≤ j))) (tVar m) (tC (.int i)))) (tTest (tOp rEq (tVar m') (tC (.int j))))) A B D σ H := by
  refine ⟨_, hm, _, _, rfl, rfl, _, rfl, ?_⟩
  refine ite2 (fun c => iteT (kA (.inl (of_decide_eq_true c)))) (fun c => ⟨_, hn, rfl, _, rfl, ?_⟩)
  exact ite2 (fun c' => kA (.inr (V.int.inj (of_decide_eq_true c')))) (fun c' => kB (of_decide_eq_false (Bool.eq_false_iff.mpr c)) fun e => c' (decide_eq_true (congrArg V.int e)))
theorem lt1 (hm : σ[m]? = some (some (.int x))) (kA : x < i → A D σ H) (kB : ¬ x < i → B D σ H) : tIfS (tTest (tOp (rI0 fun i j => .bl (decide (i < j))) (tVar m) (tC (.int i)))) A B D σ H := by
  refine ⟨_, hm, _, _, rfl, rfl, _, rfl, ?_⟩
  exact ite2 (fun c => kA (of_decide_eq_true c)) (fun c => kB (of_decide_eq_false (Bool.eq_false_iff.mpr c)))
end
theorem c_gen {σ : L2.St} {H : Hp} {a s : Addr} {d e : Nat} {b : Bool} {E : XK} {Q : VK} (h0 : σ[0]? = some (some (.ref a))) (h1 : σ[1]? = some (some (.ref s))) (h2 : σ[2]? = some (some (.int ((e + 1 : Nat) : Int)))) (hd : 1 ≤ e) (hle : e ≤ d) (g : Gn H a s)
    (k : ∀ v n H', But s H H' → Gn H' a s → Dp K H' v (enc n) → wk b n → depth n ≤ e → Q v H') :
    tCall (spGen K b d) [] E (tCons (tVar 0) (tCons (tVar 1) (tCons (tOp (rI0 fun i j => .int (i - j)) (tVar 2) (tC (.int 1))) tNil))) σ H Q := by
  obtain ⟨f, rfl⟩ : ∃ f, e = f + 1 := ⟨e - 1, by omega⟩
  exact ⟨_, h0, _, h1, _, h2, _, _, rfl, rfl, a, s, f, by show [V.ref a, V.ref s, V.int (((f + 1 + 1 : Nat) : Int) - 1)] = _; rw [show ((f + 1 + 1 : Nat) : Int) - 1 = ((f + 1 : Nat) : Int) by omega], hle, g, k⟩
theorem ints_ok {l : List Int} {Pr : Int → Prop} (h : ∀ x ∈ l, Pr x) : ∀ v ∈ l.map V.int, ∃ x, v = .int x ∧ Pr x := fun v hv => by
  obtain ⟨x, hx, rfl⟩ := List.mem_map.mp hv
  exact ⟨x, rfl, h x hx⟩
theorem len_gen {b : Bool} {d : Nat} : ∀ vs H Q E, spGen K b d vs H Q E → vs.length = 3 := fun vs H Q E h => by
  obtain ⟨a, s, e, rfl, _⟩ := h
  rfl
theorem ok__law_term (T : Tp w K mg) {d k : Nat} (hk : 2 ≤ k) (G__law_term : Cl P w K mg base k "_law_term" P__law_term (spGen K true d)) (G__law_condition : Cl P w K mg base k "_law_condition" P__law_condition (spGen K false d)) :
    Cl P w K mg base (k + 1) "_law_term" P__law_term (spGen K true (d + 1)) := by
  have G__law_next := ok__law_next (P := P) (base := base) T
  refine cl_of T.f__law_term T.g__law_term sc__law_term (fun _ F => b__law_term F) len_gen (fun cdv A outer s H vs Q E hr h => ?_)
  obtain ⟨a, st, e, rfl, h1, g0, q⟩ := h
  have hle : e ≤ d := by omega
  refine ⟨_, (pss_cons (ps_set (i := 3) sc__law_term.nd rfl (Or.inl rfl) (pe_cl G__law_next hr (by omega) pasE (pa_cons (pv 0) (pa_cons (pv 1) pa_nil))))
      (pss_cons (ps_set (i := 4) sc__law_term.nd rfl (Or.inl rfl) (pe_op op_mod (pv 3) pe_int))
      (pss_cons (ps_set (i := 5) sc__law_term.nd rfl (Or.inl rfl) (pe_ix ix_list (pe_lst (pa_cons pe_str (pa_cons pe_str (pa_cons pe_str (pa_cons pe_str pa_nil))))) (pe_op op_mod (pe_op op_fdiv (pv 3) pe_int) pe_int) (fun _ _ => rfl)))
      (pss_cons (ps_if (PW.pt (pw_or (pt_cmpR op_le (pv 2) pe_int (nomark _)) (pw_or1 (pt_cmpR op_lt (pv 4) pe_int (nomark _))))) (pss_cons (ps_if (pt_cmpR op_eq (pv 4) pe_int (nomark _)) (pss_one (ps_ret (pe_tup (pa_cons pe_str (pa_cons (pe_ix ix_list (pe_lst (pa_cons (pe_op op_sub (pe_op op_fdiv (pv 3) pe_int) pe_int) (pa_cons pe_int (pa_cons pe_int (pa_cons (pe_un un_neg pe_int) pa_nil))))) (pe_op op_mod (pe_op op_fdiv (pv 3) pe_int) pe_int) (fun _ _ => rfl)) pa_nil))))) pss_nil)
      (pss_one (ps_ret (pe_tup (pa_cons pe_str (pa_cons (pv 5) pa_nil)))))) pss_nil)
      (pss_cons (ps_if (PW.pt (pw_or (pt_cmpR op_eq (pv 4) pe_int (nomark _)) (pw_or1 (pt_cmpR op_eq (pv 4) pe_int (nomark _))))) (pss_one (ps_ret (pe_tup (pa_cons pe_str (pa_cons (pe_cl G__law_term hr (by omega) pasE (pa_cons (pv 0) (pa_cons (pv 1) (pa_cons (pe_op op_sub (pv 2) pe_int) pa_nil)))) (pa_cons (pe_ix ix_list (pe_lst (pa_cons (pe_op op_sub (pe_op op_fdiv (pv 3) pe_int) pe_int) (pa_cons pe_int (pa_cons pe_int (pa_cons (pe_un un_neg pe_int) (pa_cons pe_int (pa_cons (pe_un un_neg pe_int) pa_nil))))))) (pe_op op_mod (pe_op op_fdiv (pv 3) pe_int) pe_int) (fun _ _ => rfl)) pa_nil)))))) pss_nil)
      (pss_cons (ps_if (PW.pt (pw_or (pt_cmpR op_eq (pv 4) pe_int (nomark _)) (pw_or1 (pt_cmpR op_eq (pv 4) pe_int (nomark _))))) (pss_one (ps_ret (pe_tup (pa_cons (pe_ix ix_list (pe_lst (pa_cons pe_str (pa_cons pe_str pa_nil))) (pe_op op_sub (pv 4) pe_int) (fun _ _ => rfl)) (pa_cons (pe_ix ix_list (pe_lst (pa_cons pe_str (pa_cons pe_str (pa_cons pe_str pa_nil)))) (pe_op op_mod (pe_op op_fdiv (pv 3) pe_int) pe_int) (fun _ _ => rfl)) (pa_cons (pe_cl G__law_term hr (by omega) pasE (pa_cons (pv 0) (pa_cons (pv 1) (pa_cons (pe_op op_sub (pv 2) pe_int) pa_nil)))) pa_nil)))))) pss_nil)
      (pss_cons (ps_if (pt_cmpR op_eq (pv 4) pe_int (nomark _)) (pss_one (ps_ret (pe_tup (pa_cons pe_str (pa_cons (pe_ix ix_list (pe_lst (pa_cons pe_str (pa_cons pe_str (pa_cons pe_str pa_nil)))) (pe_op op_mod (pe_op op_fdiv (pv 3) pe_int) pe_int) (fun _ _ => rfl)) (pa_cons (pe_cl G__law_term hr (by omega) pasE (pa_cons (pv 0) (pa_cons (pv 1) (pa_cons (pe_op op_sub (pv 2) pe_int) pa_nil)))) (pa_cons (pe_ix ix_list (pe_lst (pa_cons pe_int (pa_cons pe_int (pa_cons pe_int (pa_cons (pe_un un_neg pe_int) (pa_cons (pe_un un_neg pe_int) (pa_cons pe_int (pa_cons (pe_un un_neg pe_int) (pa_cons pe_int pa_nil))))))))) (pe_op op_mod (pe_op op_fdiv (pv 3) pe_int) pe_int) (fun _ _ => rfl)) pa_nil))))))) pss_nil)
      (pss_cons (ps_if (PW.pt (pw_or (pt_cmpR op_eq (pv 4) pe_int (nomark _)) (pw_or1 (pt_cmpR op_eq (pv 4) pe_int (nomark _))))) (pss_cons (ps_set (i := 6) sc__law_term.nd rfl (Or.inl rfl) (pe_cl G__law_term hr (by omega) pasE (pa_cons (pv 0) (pa_cons (pv 1) (pa_cons (pe_op op_sub (pv 2) pe_int) pa_nil)))))
      (pss_one (ps_ret (pe_tup (pa_cons (pe_ix ix_list (pe_lst (pa_cons pe_str (pa_cons pe_str pa_nil))) (pe_op op_sub (pv 4) pe_int) (fun _ _ => rfl)) (pa_cons (pv 6) (pa_cons (pe_cl G__law_term hr (by omega) pasE (pa_cons (pv 0) (pa_cons (pv 1) (pa_cons (pe_op op_sub (pv 2) pe_int) pa_nil)))) pa_nil))))))) pss_nil)
      (pss_cons (ps_set (i := 7) sc__law_term.nd rfl (Or.inl rfl) (pe_cl G__law_condition hr (by omega) pasE (pa_cons (pv 0) (pa_cons (pv 1) (pa_cons (pe_op op_sub (pv 2) pe_int) pa_nil)))))
      (pss_cons (ps_set (i := 6) sc__law_term.nd rfl (Or.inl rfl) (pe_cl G__law_term hr (by omega) pasE (pa_cons (pv 0) (pa_cons (pv 1) (pa_cons (pe_op op_sub (pv 2) pe_int) pa_nil)))))
      (pss_one (ps_ret (pe_tup (pa_cons pe_str (pa_cons (pv 7) (pa_cons (pv 6) (pa_cons (pe_cl G__law_term hr (by omega) pasE (pa_cons (pv 0) (pa_cons (pv 1) (pa_cons (pe_op op_sub (pv 2) pe_int) pa_nil)))) pa_nil))))))))))))))))), ?_⟩
  obtain ⟨i, hst⟩ := g0.st
  refine ⟨_, rfl, _, rfl, a, st, i, rfl, g0.ne, g0.row, hst, fun y H1 y0 y1 b1 hs1 => ?_⟩
  have g1 : Gn H1 a st := by
    obtain ⟨xs, e1, e2⟩ := g0.row
    exact ⟨⟨xs, b1 _ _ e1 g0.ne, e2⟩, g0.ne, _, hs1⟩
  refine ⟨_, rfl, _, _, rfl, rfl, by show (0 : Int) < 12; decide, ?_⟩
  refine ⟨by show 4 ≤ sizeLine; decide, fun p np => ?_⟩
  have s2 := same_upd (o := .lst [.str "a", .str "b", .str "late2", .str "c"]) np
  obtain ⟨nv, en, nm, rfl, hnm⟩ := at_all (i := y / 12 % 4) (names_ok (l := ["a", "b", "late2", "c"]) (by decide +kernel)) (by omega) (by show _ < (4 : Int); omega)
  refine ⟨_, rfl, _, _, rfl, rfl, ⟨by decide, by decide⟩, _, _, rfl, rfl, by show (0 : Int) < 4; decide, p, _, _, _, rfl, rfl, SqL.of upd_same, en, ?_⟩
  have g2 := g1.same s2
  have b2 : But st H (upd H1 p (.lst [.str "a", .str "b", .str "late2", .str "c"])) := b1.trans (Same.but s2)
  generalize upd H1 p (.lst [.str "a", .str "b", .str "late2", .str "c"]) = H2 at *
  have hcal : (["c", "bank", "a"] : List Str).all isName = true := by decide +kernel
  refine orL rfl rfl (fun c => ?_) (fun c0 c3 => ?_)
  · refine eq1 rfl (fun c1 => ?_) (fun c1 => ?_)
    · refine ⟨_, rfl, _, _, rfl, rfl, ⟨by decide, by decide⟩, _, _, rfl, rfl, _, rfl, by show 4 ≤ sizeLine; decide, fun p np => ?_⟩
      obtain ⟨nv, en, z, rfl, hz⟩ := at_all (i := y / 12 % 4) (ints_ok (l := [y / 48 - 10, 0, 1000000, -7]) (Pr := fun z => -1000000 ≤ z ∧ z ≤ 1000000) (by
        intro x hx
        simp only [List.mem_cons, List.not_mem_nil, or_false] at hx
        rcases hx with rfl | rfl | rfl | rfl <;> omega)) (by omega) (by show _ < (4 : Int); omega)
      refine ⟨_, rfl, _, _, rfl, rfl, ⟨by decide, by decide⟩, _, _, rfl, rfl, by show (0 : Int) < 4; decide, p, _, _, _, rfl, rfl, SqL.of upd_same, en, ?_⟩
      refine ⟨by show 2 ≤ sizeLine; decide, fun x nx => ?_⟩
      have s3 := (same_upd (o := .lst ([y / 48 - 10, 0, 1000000, -7].map V.int)) np).trans (same_upd (o := .tup [.str "at", .int z]) nx)
      exact q _ (.num z) _ (b2.trans (Same.but s3)) (g2.same s3) (mkT nx (d2 (.str _) (.int _))) hz (by show 1 ≤ e + 1; omega)
    · refine ⟨_, rfl, by show 2 ≤ sizeLine; decide, fun x nx => ?_⟩
      have s3 := same_upd (o := .tup [.str "day", .str nm]) nx
      exact q _ (.day nm) _ (b2.trans (Same.but s3)) (g2.same s3) (mkT nx (d2 (.str _) (.str _))) hnm (by show 1 ≤ e + 1; omega)
  have hd : 1 ≤ e := by omega
  refine or2 rfl (fun c => ?_) (fun _ _ => ?_)
  · refine c_gen rfl rfl rfl hd hle g2 fun v n H3 b3 g3 dv hw hdp => ?_
    refine ⟨_, rfl, _, _, rfl, rfl, ⟨by decide, by decide⟩, _, _, rfl, rfl, _, rfl, _, rfl, by show 6 ≤ sizeLine; decide, fun p np => ?_⟩
    obtain ⟨nv, en, z, rfl, hz⟩ := at_all (i := y / 12 % 6) (ints_ok (l := [y / 84 - 5, 0, 1000000, -1000000, 3, -1]) (Pr := fun z => -1000000 ≤ z ∧ z ≤ 1000000) (by
      intro x hx
      simp only [List.mem_cons, List.not_mem_nil, or_false] at hx
      rcases hx with rfl | rfl | rfl | rfl | rfl | rfl <;> omega)) (by omega) (by show _ < (6 : Int); omega)
    refine ⟨_, rfl, _, _, rfl, rfl, ⟨by decide, by decide⟩, _, _, rfl, rfl, by show (0 : Int) < 6; decide, p, _, _, _, rfl, rfl, SqL.of upd_same, en, ?_⟩
    refine ⟨by show 3 ≤ sizeLine; decide, fun x nx => ?_⟩
    have sp := same_upd (o := .lst ([y / 84 - 5, 0, 1000000, -1000000, 3, -1].map V.int)) np
    have s4 := sp.trans (same_upd (o := .tup [.str "plus", v, .int z]) nx)
    exact q _ (.plus n z) _ ((b2.trans b3).trans (Same.but s4)) (g3.same s4) (mkT nx (d3 (.str _) (Dp.same sp dv) (.int _))) ⟨hw, hz⟩ (by show depth n + 1 ≤ e + 1; omega)
  refine or2 rfl (fun c => ?_) (fun _ _ => ?_)
  · refine ⟨by show 2 ≤ sizeLine; decide, fun p np => ?_⟩
    have s3 := same_upd (o := .lst [.str "next", .str "prev"]) np
    obtain ⟨fw, ef⟩ : ∃ fw : Bool, atI [V.str "next", V.str "prev"] (y % 12 - 5) = some (.str (if fw = true then ("next" : Str) else ("prev" : Str))) := by
      rcases c with c | c <;> rw [c]
      · exact ⟨true, atI_nat (j := 0) rfl⟩
      · exact ⟨false, atI_nat (j := 1) rfl⟩
    refine ⟨_, rfl, _, _, rfl, rfl, p, _, _, _, rfl, rfl, SqL.of upd_same, ef, ?_⟩
    refine ⟨by show 3 ≤ sizeLine; decide, fun p' np' => ?_⟩
    have s4 := s3.trans (same_upd (o := .lst [.str "c", .str "bank", .str "a"]) np')
    obtain ⟨nv, en, cal, rfl, hca⟩ := at_all (i := y / 12 % 3) (names_ok hcal) (by omega) (by show _ < (3 : Int); omega)
    refine ⟨_, rfl, _, _, rfl, rfl, ⟨by decide, by decide⟩, _, _, rfl, rfl, by show (0 : Int) < 3; decide, p', _, _, _, rfl, rfl, SqL.of upd_same, en, ?_⟩
    refine c_gen rfl rfl rfl hd hle (g2.same s4) fun v n H3 b3 g3 dv hw hdp => ?_
    refine ⟨by show 3 ≤ sizeLine; decide, fun x nx => ?_⟩
    have s5 := same_upd (o := .tup [.str (if fw = true then ("next" : Str) else ("prev" : Str)), .str cal, v]) nx
    exact q _ (.near fw cal n) _ (((b2.trans (Same.but s4)).trans b3).trans (Same.but s5)) (g3.same s5) (mkT nx (d3 (.str _) (.str _) dv)) ⟨hca, hw⟩ (by show depth n + 1 ≤ e + 1; omega)
  refine eq1 rfl (fun c => ?_) (fun _ => ?_)
  · refine ⟨by show 3 ≤ sizeLine; decide, fun p' np' => ?_⟩
    have s4 := same_upd (o := .lst [.str "c", .str "bank", .str "a"]) np'
    obtain ⟨nv, en, cal, rfl, hca⟩ := at_all (i := y / 12 % 3) (names_ok hcal) (by omega) (by show _ < (3 : Int); omega)
    refine ⟨_, rfl, _, _, rfl, rfl, ⟨by decide, by decide⟩, _, _, rfl, rfl, by show (0 : Int) < 3; decide, p', _, _, _, rfl, rfl, SqL.of upd_same, en, ?_⟩
    refine c_gen rfl rfl rfl hd hle (g2.same s4) fun v n H3 b3 g3 dv hw hdp => ?_
    refine ⟨_, rfl, _, rfl, _, rfl, by show 8 ≤ sizeLine; decide, fun p np => ?_⟩
    obtain ⟨nv, en, z, rfl, hz⟩ := at_all (i := y / 36 % 8) (ints_ok (l := [1, 2, 6, -1, -6, 3, -4, 5]) (Pr := fun z => z ≠ 0 ∧ -6 ≤ z ∧ z ≤ 6) (by decide)) (by omega) (by show _ < (8 : Int); omega)
    refine ⟨_, rfl, _, _, rfl, rfl, ⟨by decide, by decide⟩, _, _, rfl, rfl, by show (0 : Int) < 8; decide, p, _, _, _, rfl, rfl, SqL.of upd_same, en, ?_⟩
    refine ⟨by show 4 ≤ sizeLine; decide, fun x nx => ?_⟩
    have sp := same_upd (o := .lst ([1, 2, 6, -1, -6, 3, -4, 5].map V.int)) np
    have s5 := sp.trans (same_upd (o := .tup [.str "nth", .str cal, v, .int z]) nx)
    exact q _ (.nth cal n z) _ (((b2.trans (Same.but s4)).trans b3).trans (Same.but s5)) (g3.same s5) (mkT nx (d4 (.str _) (.str _) (Dp.same sp dv) (.int _))) ⟨hca, hw, hz⟩ (by show depth n + 1 ≤ e + 1; omega)
  refine or2 rfl (fun c => ?_) (fun _ _ => ?_)
  · refine c_gen rfl rfl rfl hd hle g2 fun v1 n1 H3 b3 g3 dv1 hw1 hd1 => ?_
    refine ⟨by show 2 ≤ sizeLine; decide, fun p np => ?_⟩
    have s3 := same_upd (o := .lst [.str "later", .str "earlier"]) np
    obtain ⟨fw, ef⟩ : ∃ fw : Bool, atI [V.str "later", V.str "earlier"] (y % 12 - 8) = some (.str (if fw = true then ("later" : Str) else ("earlier" : Str))) := by
      rcases c with c | c <;> rw [c]
      · exact ⟨true, atI_nat (j := 0) rfl⟩
      · exact ⟨false, atI_nat (j := 1) rfl⟩
    refine ⟨_, rfl, _, _, rfl, rfl, p, _, _, _, rfl, rfl, SqL.of upd_same, ef, ?_⟩
    refine ⟨_, rfl, ?_⟩
    refine c_gen rfl rfl rfl hd hle (g3.same s3) fun v2 n2 H4 b4 g4 dv2 hw2 hd2 => ?_
    refine ⟨by show 3 ≤ sizeLine; decide, fun x nx => ?_⟩
    have dv1 := (g3.same s3).keep b4 (Dp.same s3 dv1)
    have s5 := same_upd (o := .tup [.str (if fw = true then ("later" : Str) else ("earlier" : Str)), v1, v2]) nx
    exact q _ (.pick fw n1 n2) _ ((((b2.trans b3).trans (Same.but s3)).trans b4).trans (Same.but s5)) (g4.same s5) (mkT nx (d3 (.str _) dv1 dv2)) ⟨hw1, hw2⟩ (by show max (depth n1) (depth n2) + 1 ≤ e + 1; omega)
  refine c_gen rfl rfl rfl hd hle g2 fun v0 n0 H3 b3 g3 dv0 hw0 hd0 => ?_
  refine c_gen rfl rfl rfl hd hle g3 fun v1 n1 H4 b4 g4 dv1 hw1 hd1 => ?_
  have dv0 := g3.keep b4 dv0
  refine ⟨_, rfl, _, rfl, ?_⟩
  refine c_gen rfl rfl rfl hd hle g4 fun v2 n2 H5 b5 g5 dv2 hw2 hd2 => ?_
  have dv0 := g4.keep b5 dv0
  have dv1 := g4.keep b5 dv1
  refine ⟨by show 4 ≤ sizeLine; decide, fun x nx => ?_⟩
  have s5 := same_upd (o := .tup [.str "if", v0, v1, v2]) nx
  exact q _ (.ite n0 n1 n2) _ ((((b2.trans b3).trans b4).trans b5).trans (Same.but s5)) (g5.same s5) (mkT nx (d4 (.str _) dv0 dv1 dv2)) ⟨hw0, hw1, hw2⟩ (by show max (depth n0) (max (depth n1) (depth n2)) + 1 ≤ e + 1; omega)
theorem ok__law_condition (T : Tp w K mg) {d k : Nat} (hk : 2 ≤ k) (G__law_term : Cl P w K mg base k "_law_term" P__law_term (spGen K true d)) (G__law_condition : Cl P w K mg base k "_law_condition" P__law_condition (spGen K false d)) :
    Cl P w K mg base (k + 1) "_law_condition" P__law_condition (spGen K false (d + 1)) := by
  have G__law_next := ok__law_next (P := P) (base := base) T
  refine cl_of T.f__law_condition T.g__law_condition sc__law_condition (fun _ F => b__law_condition F) len_gen (fun cdv A outer s H vs Q E hr h => ?_)
  obtain ⟨a, st, e, rfl, h1, g0, q⟩ := h
  have hle : e ≤ d := by omega
  refine ⟨_, (pss_cons (ps_set (i := 3) sc__law_condition.nd rfl (Or.inl rfl) (pe_cl G__law_next hr (by omega) pasE (pa_cons (pv 0) (pa_cons (pv 1) pa_nil))))
      (pss_cons (ps_set (i := 4) sc__law_condition.nd rfl (Or.inl rfl) (pe_op op_mod (pv 3) pe_int))
      (pss_cons (ps_if (PW.pt (pw_or (pt_cmpR op_le (pv 2) pe_int (nomark _)) (pw_or1 (pt_cmpR op_eq (pv 4) pe_int (nomark _))))) (pss_one (ps_ret (pe_ix ix_list (pe_lst (pa_cons (pe_tup (pa_cons pe_str pa_nil)) (pa_cons (pe_tup (pa_cons pe_str (pa_cons (pe_ix ix_list (pe_lst (pa_cons pe_str (pa_cons pe_str (pa_cons pe_str pa_nil)))) (pe_op op_mod (pe_op op_fdiv (pv 3) pe_int) pe_int) (fun _ _ => rfl)) pa_nil))) pa_nil))) (pe_op op_mod (pe_op op_fdiv (pv 3) pe_int) pe_int) (fun _ _ => rfl)))) pss_nil)
      (pss_cons (ps_if (pt_cmpR op_lt (pv 4) pe_int (nomark _)) (pss_cons (ps_set (i := 5) sc__law_condition.nd rfl (Or.inl rfl) (pe_cl G__law_term hr (by omega) pasE (pa_cons (pv 0) (pa_cons (pv 1) (pa_cons (pe_op op_sub (pv 2) pe_int) pa_nil)))))
      (pss_one (ps_ret (pe_tup (pa_cons pe_str (pa_cons (pv 5) (pa_cons (pe_cl G__law_term hr (by omega) pasE (pa_cons (pv 0) (pa_cons (pv 1) (pa_cons (pe_op op_sub (pv 2) pe_int) pa_nil)))) pa_nil))))))) pss_nil)
      (pss_cons (ps_if (pt_cmpR op_eq (pv 4) pe_int (nomark _)) (pss_one (ps_ret (pe_tup (pa_cons pe_str (pa_cons (pe_ix ix_list (pe_lst (pa_cons pe_str (pa_cons pe_str (pa_cons pe_str pa_nil)))) (pe_op op_mod (pe_op op_fdiv (pv 3) pe_int) pe_int) (fun _ _ => rfl)) (pa_cons (pe_cl G__law_term hr (by omega) pasE (pa_cons (pv 0) (pa_cons (pv 1) (pa_cons (pe_op op_sub (pv 2) pe_int) pa_nil)))) pa_nil)))))) pss_nil)
      (pss_cons (ps_if (pt_cmpR op_eq (pv 4) pe_int (nomark _)) (pss_one (ps_ret (pe_tup (pa_cons pe_str (pa_cons (pe_cl G__law_condition hr (by omega) pasE (pa_cons (pv 0) (pa_cons (pv 1) (pa_cons (pe_op op_sub (pv 2) pe_int) pa_nil)))) pa_nil))))) pss_nil)
      (pss_cons (ps_set (i := 5) sc__law_condition.nd rfl (Or.inl rfl) (pe_cl G__law_condition hr (by omega) pasE (pa_cons (pv 0) (pa_cons (pv 1) (pa_cons (pe_op op_sub (pv 2) pe_int) pa_nil)))))
      (pss_one (ps_ret (pe_tup (pa_cons (pe_ix ix_list (pe_lst (pa_cons pe_str (pa_cons pe_str pa_nil))) (pe_op op_mod (pv 4) pe_int) (fun _ _ => rfl)) (pa_cons (pv 5) (pa_cons (pe_cl G__law_condition hr (by omega) pasE (pa_cons (pv 0) (pa_cons (pv 1) (pa_cons (pe_op op_sub (pv 2) pe_int) pa_nil)))) pa_nil))))))))))))), ?_⟩
  obtain ⟨i, hst⟩ := g0.st
  refine ⟨_, rfl, _, rfl, a, st, i, rfl, g0.ne, g0.row, hst, fun y H2 y0 y1 b2 hs1 => ?_⟩
  have g2 : Gn H2 a st := by
    obtain ⟨xs, e1, e2⟩ := g0.row
    exact ⟨⟨xs, b2 _ _ e1 g0.ne, e2⟩, g0.ne, _, hs1⟩
  refine ⟨_, rfl, _, _, rfl, rfl, by show (0 : Int) < 10; decide, ?_⟩
  have hcal : (["c", "bank", "a"] : List Str).all isName = true := by decide +kernel
  refine orE rfl rfl (fun c => ?_) (fun c0 c3 => ?_)
  · refine ⟨by show 1 ≤ sizeLine; decide, fun p1 n1 => ?_⟩
    have s1 := same_upd (o := .tup [.str "yes"]) n1
    refine ⟨by show 3 ≤ sizeLine; decide, fun p2 n2 => ?_⟩
    have s2 := s1.trans (same_upd (o := .lst [.str "a", .str "f", .str "rest"]) n2)
    obtain ⟨nv, en, nm, rfl, hnm⟩ := at_all (i := y / 30 % 3) (names_ok (l := ["a", "f", "rest"]) (by decide +kernel)) (by omega) (by show _ < (3 : Int); omega)
    refine ⟨_, rfl, _, _, rfl, rfl, ⟨by decide, by decide⟩, _, _, rfl, rfl, by show (0 : Int) < 3; decide, p2, _, _, _, rfl, rfl, SqL.of upd_same, en, ?_⟩
    refine ⟨by show 2 ≤ sizeLine; decide, fun p3 n3 => ?_⟩
    have s3' := same_upd (o := .tup [.str "flag", .str nm]) n3
    have s3 := s2.trans s3'
    refine ⟨by show 2 ≤ sizeLine; decide, fun p4 n4 => ?_⟩
    have s4' := same_upd (o := .lst [.ref p1, .ref p3]) n4
    have s4 := s3.trans s4'
    refine ⟨_, rfl, _, _, rfl, rfl, ⟨by decide, by decide⟩, _, _, rfl, rfl, by show (0 : Int) < 2; decide, ?_⟩
    have hy : y / 10 % 2 = 0 ∨ y / 10 % 2 = 1 := by omega
    rcases hy with ey | ey
    · refine ⟨p4, _, _, .ref p1, rfl, rfl, SqL.of upd_same, by rw [ey]; exact atI_nat (j := 0) rfl, ?_⟩
      refine q _ .yes _ (b2.trans (Same.but s4)) (g2.same s4) (.tup (.inl (.inl ?_)) (.cons (.str _) .nil)) trivial (by show 1 ≤ e + 1; omega)
      exact s4' _ _ (s3' _ _ (same_upd (o := .lst [.str "a", .str "f", .str "rest"]) n2 _ _ upd_same))
    · refine ⟨p4, _, _, .ref p3, rfl, rfl, SqL.of upd_same, by rw [ey]; exact atI_nat (j := 1) rfl, ?_⟩
      exact q _ (.flag nm) _ (b2.trans (Same.but s4)) (g2.same s4) (Dp.same s4' (mkT n3 (d2 (.str _) (.str _)))) hnm (by show 1 ≤ e + 1; omega)
  have hd : 1 ≤ e := by omega
  refine lt1 rfl (fun c => ?_) (fun c4 => ?_)
  · refine c_gen rfl rfl rfl hd hle g2 fun v1 n1 H3 b3 g3 dv1 hw1 hd1 => ?_
    refine ⟨_, rfl, ?_⟩
    refine c_gen rfl rfl rfl hd hle g3 fun v2 n2 H4 b4 g4 dv2 hw2 hd2 => ?_
    have dv1 := g3.keep b4 dv1
    refine ⟨by show 3 ≤ sizeLine; decide, fun x nx => ?_⟩
    have s5 := same_upd (o := .tup [.str "le", v1, v2]) nx
    exact q _ (.le n1 n2) _ (((b2.trans b3).trans b4).trans (Same.but s5)) (g4.same s5) (mkT nx (d3 (.str _) dv1 dv2)) ⟨hw1, hw2⟩ (by show max (depth n1) (depth n2) + 1 ≤ e + 1; omega)
  refine eq1 rfl (fun c => ?_) (fun _ => ?_)
  · refine ⟨by show 3 ≤ sizeLine; decide, fun p' np' => ?_⟩
    have s4 := same_upd (o := .lst [.str "c", .str "bank", .str "a"]) np'
    obtain ⟨nv, en, cal, rfl, hca⟩ := at_all (i := y / 10 % 3) (names_ok hcal) (by omega) (by show _ < (3 : Int); omega)
    refine ⟨_, rfl, _, _, rfl, rfl, ⟨by decide, by decide⟩, _, _, rfl, rfl, by show (0 : Int) < 3; decide, p', _, _, _, rfl, rfl, SqL.of upd_same, en, ?_⟩
    refine c_gen rfl rfl rfl hd hle (g2.same s4) fun v n H3 b3 g3 dv hw hdp => ?_
    refine ⟨by show 3 ≤ sizeLine; decide, fun x nx => ?_⟩
    have s5 := same_upd (o := .tup [.str "is", .str cal, v]) nx
    exact q _ (.isO cal n) _ (((b2.trans (Same.but s4)).trans b3).trans (Same.but s5)) (g3.same s5) (mkT nx (d3 (.str _) (.str _) dv)) ⟨hca, hw⟩ (by show depth n + 1 ≤ e + 1; omega)
  refine eq1 rfl (fun c => ?_) (fun _ => ?_)
  · refine c_gen rfl rfl rfl hd hle g2 fun v n H3 b3 g3 dv hw hdp => ?_
    refine ⟨by show 2 ≤ sizeLine; decide, fun x nx => ?_⟩
    have s5 := same_upd (o := .tup [.str "not", v]) nx
    exact q _ (.neg n) _ ((b2.trans b3).trans (Same.but s5)) (g3.same s5) (mkT nx (d2 (.str _) dv)) hw (by show depth n + 1 ≤ e + 1; omega)
  refine c_gen rfl rfl rfl hd hle g2 fun v1 n1 H3 b3 g3 dv1 hw1 hd1 => ?_
  refine ⟨by show 2 ≤ sizeLine; decide, fun p np => ?_⟩
  have s3 := same_upd (o := .lst [.str "and", .str "or"]) np
  have hy : y % 10 % 2 = 0 ∨ y % 10 % 2 = 1 := by omega
  rcases hy with ey | ey
  · refine ⟨_, rfl, _, _, rfl, rfl, by show (0 : Int) < 2; decide, p, _, _, .str "and", rfl, rfl, SqL.of upd_same, by rw [ey]; exact atI_nat (j := 0) rfl, ?_⟩
    refine ⟨_, rfl, ?_⟩
    refine c_gen rfl rfl rfl hd hle (g3.same s3) fun v2 n2 H4 b4 g4 dv2 hw2 hd2 => ?_
    refine ⟨by show 3 ≤ sizeLine; decide, fun x nx => ?_⟩
    have dv1 := (g3.same s3).keep b4 (Dp.same s3 dv1)
    have s5 := same_upd (o := .tup [.str "and", v1, v2]) nx
    exact q _ (.conj n1 n2) _ ((((b2.trans b3).trans (Same.but s3)).trans b4).trans (Same.but s5)) (g4.same s5) (mkT nx (d3 (.str _) dv1 dv2)) ⟨hw1, hw2⟩ (by show max (depth n1) (depth n2) + 1 ≤ e + 1; omega)
  · refine ⟨_, rfl, _, _, rfl, rfl, by show (0 : Int) < 2; decide, p, _, _, .str "or", rfl, rfl, SqL.of upd_same, by rw [ey]; exact atI_nat (j := 1) rfl, ?_⟩
    refine ⟨_, rfl, ?_⟩
    refine c_gen rfl rfl rfl hd hle (g3.same s3) fun v2 n2 H4 b4 g4 dv2 hw2 hd2 => ?_
    refine ⟨by show 3 ≤ sizeLine; decide, fun x nx => ?_⟩
    have dv1 := (g3.same s3).keep b4 (Dp.same s3 dv1)
    have s5 := same_upd (o := .tup [.str "or", v1, v2]) nx
    exact q _ (.disj n1 n2) _ ((((b2.trans b3).trans (Same.but s3)).trans b4).trans (Same.but s5)) (g4.same s5) (mkT nx (d3 (.str _) dv1 dv2)) ⟨hw1, hw2⟩ (by show max (depth n1) (depth n2) + 1 ≤ e + 1; omega)
theorem gens (T : Tp w K mg) : ∀ d : Nat, Cl P w K mg base (d + 3) "_law_term" P__law_term (spGen K true d) ∧ Cl P w K mg base (d + 3) "_law_condition" P__law_condition (spGen K false d)
  | 0 => by
    have no : ∀ {b : Bool} {vs : List V} {H : Hp} {Q : VK} {E : XK}, spGen K b 0 vs H Q E → False := fun h => by
      obtain ⟨a, s, e, _, hd, _⟩ := h
      omega
    exact ⟨cl_of (k := 2) T.f__law_term T.g__law_term sc__law_term (fun _ F => b__law_term F) len_gen (fun cdv A outer s H vs Q E hr h => (no h).elim), cl_of (k := 2) T.f__law_condition T.g__law_condition sc__law_condition (fun _ F => b__law_condition F) len_gen (fun cdv A outer s H vs Q E hr h => (no h).elim)⟩
  | d + 1 => by
    obtain ⟨h1, h2⟩ := gens T d
    exact ⟨ok__law_term T (by omega) h1 h2, ok__law_condition T (by omega) h1 h2⟩
end
end KT

namespace KT
open PySem PySem.Spec
open PyProof.Rows L2 KM
def tCs : List Str → TA
  | [] => tNil
  | u :: r => tCons (tC (.str u)) (tCs r)
theorem tCs_run : ∀ (l : List Str) {σ : L2.St} {H : Hp} {Q : List V → Hp → Prop}, Q (l.map V.str) H → tCs l σ H Q
  | [], _, _, _, q => q
  | u :: r, σ, H, Q, q => tCs_run r (Q := fun xs H2 => Q (V.str u :: xs) H2) q
section
variable {K : PySem.W.Frag} {H : Hp} {σ : L2.St} {j : Nat} {Q : VK} {D : Ends} {A B : TS} {w : Str} {l m : List Nat}
theorem seq_lst {a : Addr} {xs : List V} (h : H a = some (.lst xs)) : SqL K H a xs ∨ SqT K H a xs := .inl (SqL.of h)
theorem r_inL (ws : List Str) (hn : ws.length ≤ 1000000) (hj : σ[j]? = some (some (.str w))) (kA : ws.contains w = true → ∀ H', Same H H' → A D σ H') (kB : ws.contains w = false → ∀ H', Same H H' → B D σ H') :
    tIfS (tTest (tOp (rIn K false) (tVar j) (tLst (tCs ws)))) A B D σ H := by
  refine ⟨_, hj, tCs_run ws ⟨by rw [List.length_map]; exact sl6 hn, fun b nb => ⟨b, _, rfl, seq_lst upd_same, rfl, flat_strs ws, _, rfl, ?_⟩⟩⟩
  refine ite2 (fun c => kA (inV_str.symm.trans c) _ (same_upd nb)) (fun c => kB (inV_str.symm.trans (Bool.eq_false_iff.mpr c)) _ (same_upd nb))
/-- two texts, one behind the other -/
def rCat2 : R2 := fun x y H Q => ∃ i j, x = .str i ∧ y = .str j ∧ i.length + j.length ≤ sizeLine ∧ Q (.str (i ++ j)) H
theorem op_cat2 {X : Cx} : OpR X (binaryOp .Add) rCat2 := op_add_str
theorem k_cat {x y : Str} (ex : x = sS l) (ey : y = sS m) (h : l.length + m.length ≤ 1000000) (q : Q (.str (sS (l ++ m))) H) : rCat2 (.str x) (.str y) H Q := by
  subst ex
  subst ey
  exact ⟨_, _, rfl, rfl, by rw [sS_len, sS_len]; exact sl6 h, by rw [sS_app]; exact q⟩
theorem k_lit {x u : Str} (ex : x = sS l) (eu : u = sS m) (h : l.length + m.length ≤ 1000000) (q : Q (.str (sS (l ++ m))) H) : tC (.str u) σ H fun y H2 => rCat2 (.str x) y H2 Q := k_cat ex eu h q
end
theorem u1 {k : Nat} {A : Around} (r : Room k A) : A.units + 1 < cLine := by have := r.units; omega
def spLt (K : PySem.W.Frag) (d : Nat) : Sp := fun vs H Q _ => ∃ (v : V) (n : Nd) (b : Bool), vs = [v] ∧ Dp K H v (enc n) ∧ wk b n ∧ depth n ≤ d ∧ (px n).length ≤ 1000000 ∧ ∀ H', Same H H' → Q (.str (sS (px n))) H'
theorem cut_tl (x : V) (r : List V) : cutV (x :: r) (some 1) none = r := by
  unfold cutV
  rw [show (some (1 : Int)) = some ((1 : Nat) : Int) from rfl, HT.sIx_nat, HT.sIx_none]
  have : min 1 (x :: r).length = 1 := by rw [List.length_cons]; omega
  rw [this, List.length_cons, Nat.add_sub_cancel]
  exact List.take_length
/-- the texts of the parts of a node, one behind the other -/
theorem lc_kids {K : PySem.W.Frag} {d j : Nat} {σ : L2.St} {H1 : Hp} {a : Addr} {xs : List V} {ks : List Nd} {E : XK} {Q : VK} (hq : SqT K H1 a xs) (hd : DpAll K H1 xs (ks.map enc)) (hk : ∀ n ∈ ks, (∃ b, wk b n) ∧ depth n ≤ d ∧ (px n).length ≤ 1000000) (hj : j < σ.length)
    (hlen : ks.length ≤ 10) (q : ∀ D H', H1 D = none → Same H1 H' → H' D = some (.lst ((ks.map fun n => sS (px n)).map V.str)) → Q (.ref D) H') :
    ∀ D, H1 D = none → ∃ W : Nat → Nat → Hp → Prop, (∃ m, W 0 m (upd H1 D (.lst []))) ∧ ∀ i m H, W i m H →
      ((Itt K a).stop i H ∧ Q (.ref D) H) ∨ ((Itt K a).go i H ∧ ∃ Nx : Hp → Prop, (∀ H', Nx H' → ∃ m', m' < m ∧ W (i + 1) m' H') ∧ ∀ x H', (Itt K a).yld i H x H' → gName j x (wipe σ [j]) H' fun σ2 H2 => wipe σ2 [j] = wipe σ [j] ∧ tYes σ2 H2 fun b H3 =>
        if b = true then (tCall (spLt K d) [] E (tCons (tVar j) tNil)) σ2 H3 fun y H4 => ∃ acc, H4 D = some (.lst acc) ∧ acc.length < sizeLine ∧ Nx (upd H4 D (.lst (acc ++ [y]))) else Nx H3) := by
  intro D hD
  have hxl : xs.length = ks.length := (dp_len hd).trans (List.length_map _)
  refine lc_tup (K := K) (a := a) (xs := xs) (Qd := Q (.ref D)) (fun i H => Same H1 H ∧ H D = some (.lst (((ks.take i).map fun n => sS (px n)).map V.str))) ⟨same_upd hD, upd_same⟩ (fun i H _ h => same_sqt h.1 hq) (fun i x H ex h => ?_) (fun H h => ?_)
  · obtain ⟨hs, ha⟩ := h
    have lt : i < ks.length := by rw [← hxl]; exact (List.getElem?_eq_some_iff.mp ex).1
    have ek : ks[i]? = some ks[i] := List.getElem?_eq_getElem lt
    have dx : Dp K H1 x (enc ks[i]) := dp_get hd ex (by rw [List.getElem?_map, ek]; rfl)
    obtain ⟨⟨b, hw⟩, h2, h3⟩ := hk ks[i] (List.getElem_mem lt)
    refine ⟨set_wipe, ?_⟩
    have hv : ((wipe σ [j]).set j (some x))[j]? = some (some x) := by
      rw [List.getElem?_set_self]
      rw [wipe_length]; exact hj
    refine ⟨x, hv, x, ks[i], b, rfl, Dp.same hs dx, hw, h2, h3, fun H' s' => ?_⟩
    refine ⟨_, s' _ _ ha, ?_, fun b o q' => ?_, ?_⟩
    · rw [List.length_map, List.length_map, List.length_take]
      exact Nat.lt_of_le_of_lt (show min i ks.length ≤ 1000000 by omega) (by decide)
    · rw [upd_ne (ne_of_none q' hD)]; exact s' _ _ (hs _ _ q')
    · rw [upd_same, List.take_add_one, ek, Option.toList_some, List.map_append, List.map_append]; rfl
  · obtain ⟨hs, ha⟩ := h
    rw [hxl, List.take_length] at ha
    exact q D H hD hs ha
theorem t_kids {K : PySem.W.Frag} {d j : Nat} {σ : L2.St} {H : Hp} {a : Addr} {x0 : V} {r : List V} {ks : List Nd} {E : XK} {Q : VK} (h0 : σ[0]? = some (some (.ref a))) (hq : SqT K H a (x0 :: r)) (hd : DpAll K H r (ks.map enc)) (hk : ∀ n ∈ ks, (∃ b, wk b n) ∧ depth n ≤ d ∧ (px n).length ≤ 1000000) (hj : j < σ.length)
    (hlen : ks.length ≤ 10) (q : ∀ D H', H D = none → Same H H' → H' D = some (.lst ((ks.map fun n => sS (px n)).map V.str)) → Q (.ref D) H') :
    tLc (iTup K (tSl (rSlT K) (tVar 0) (tPart (tC (.int 1))) tNoPart)) (gName j) tYes (tCall (spLt K d) [] E (tCons (tVar j) tNil)) [j] σ H Q := by
  refine ⟨_, h0, _, rfl, a, _, rfl, hq, ?_, fun p np => ?_⟩
  · rintro ⟨e, _⟩
    rw [show (some (1 : Int)) = some ((1 : Nat) : Int) from rfl, HT.sIx_nat, List.length_cons] at e
    omega
  rw [cut_tl]
  have s1 := same_upd (o := .tup r) np
  refine ⟨p, rfl, ⟨r, .inl (.inl upd_same)⟩, lc_kids (.inl (.inl upd_same)) (DpAll.same s1 hd) hk hj hlen fun D H' nD s' hD => q D H' ?_ (s1.trans s') hD⟩
  cases e : H D with
  | none => rfl
  | some o => rw [s1 _ _ e] at nD; cases nD
theorem join2 (l m : List Nat) : Txt.join (", " : Str) [sS l, sS m] = sS (l ++ 44 :: 32 :: m) := by
  refine TL.ext_tl ?_
  have e : TL.tl (", " : Str) = [44, 32] := by decide +kernel
  rw [TL.join_eq, TL.tl_join, e]
  simp [TL.joinL, TL.tl]
theorem join3 (l m n : List Nat) : Txt.join (", " : Str) [sS l, sS m, sS n] = sS (l ++ 44 :: 32 :: (m ++ 44 :: 32 :: n)) := by
  refine TL.ext_tl ?_
  have e : TL.tl (", " : Str) = [44, 32] := by decide +kernel
  rw [TL.join_eq, TL.tl_join, e]
  simp [TL.joinL, TL.tl]
def barFor (K : PySem.W.Frag) : TS := tFor (iRng1 (tCons (tCB (fun xs H Q => ∃ p ys, xs = [.ref p] ∧ (SqL K H p ys ∨ SqT K H p ys) ∧ Q (.int ys.length) H) (tCons (tVar 2) tNil)) tNil)) (gName 4)
  (tIfS (tTest (tOp (rIn K false) (tOp (rIxT K) (tOp (rIxT K) (tVar 0) (tOp (rI0 fun i j => .int (i + j)) (tC (.int 1)) (tVar 4))) (tC (.int 0))) (tOp (rIxL K) (tVar 3) (tVar 4))))
    (tAsg (tOp rCat2 (tOp rCat2 (tC (.str "[")) (tOp (rIxL K) (tVar 2) (tVar 4))) (tC (.str "]"))) (gSub (tVar 2) (tVar 4) rSetL)) tNext)
theorem step_drop {α : Type} {z p : List α} {i : Nat} (h1 : i < z.length) (h2 : i < p.length) : z.take (i + 1) ++ p.drop (i + 1) = (z.take i ++ p.drop i).set i z[i] := by
  have e1 : z.take (i + 1) = z.take i ++ [z[i]] := by rw [List.take_add_one, List.getElem?_eq_getElem h1]; rfl
  have e2 : p.drop i = p[i] :: p.drop (i + 1) := List.drop_eq_getElem_cons h2
  have e3 : (z.take i).length = i := by rw [List.length_take]; omega
  rw [List.set_append, if_neg (by omega), e3, Nat.sub_self, e1, e2, List.append_assoc]
  rfl
theorem set_same {α : Type} : ∀ {l : List α} {i : Nat} {v : α}, l[i]? = some v → l.set i v = l
  | [], _, _, h => by simp at h
  | x :: r, 0, v, h => by
    have e : x = v := Option.some.inj h
    rw [e]; rfl
  | x :: r, i + 1, v, h => congrArg (x :: ·) (set_same (l := r) (i := i) h)
theorem bar_run {K : PySem.W.Frag} {H : Hp} {Dn : Ends} {a D B : Addr} {w0 : Str} {x0 : V} {x4 x5 : Option V} {r : List V} {ks : List Nd} {bl : List Addr} {bs : List (List Str)} (hq : SqT K H a (x0 :: r)) (hr : DpAll K H r (ks.map enc))
    (hD : H D = some (.lst ((ks.map fun n => sS (px n)).map V.str))) (hB : H B = some (.lst (bl.map V.ref))) (hb : ∀ (i : Nat) (b : Addr) (ws : List Str), bl[i]? = some b → bs[i]? = some ws → H b = some (.lst (ws.map V.str))) (h1 : bl.length = ks.length) (h2 : bs.length = ks.length)
    (nB : B ≠ D) (nb : ∀ b ∈ bl, b ≠ D) (hl : ∀ k ∈ ks, (px k).length + 2 ≤ 1000000) (hk : ks.length ≤ 10)
    (q : ∀ x4' H', But D H H' → H' D = some (.lst ((List.zipWith (fun k ws => sS (bx (List.contains ws (wd k)) (px k))) ks bs).map V.str)) → Dn.nx [some (.ref a), some (.str w0), some (.ref D), some (.ref B), x4', x5] H') :
    barFor K Dn [some (.ref a), some (.str w0), some (.ref D), some (.ref B), x4, x5] H := by
  refine ⟨_, rfl, D, _, rfl, .inl (SqL.of hD), _, rfl, ?_, ?_, ?_⟩
  · rw [List.length_map, List.length_map]; omega
  · rw [List.length_map, List.length_map]; omega
  rw [List.length_map, List.length_map, Int.toNat_natCast]
  have hz : (List.zipWith (fun k ws => sS (bx (List.contains ws (wd k)) (px k))) ks bs).length = ks.length := by rw [List.length_zipWith, h2, Nat.min_self]
  have hp : (ks.map fun n => sS (px n)).length = ks.length := List.length_map _
  generalize ez : List.zipWith (fun k ws => sS (bx (List.contains ws (wd k)) (px k))) ks bs = z at *
  generalize ep : (ks.map fun n => sS (px n)) = pl at *
  refine for_range (fun i σ H' => ∃ x4', σ = [some (.ref a), some (.str w0), some (.ref D), some (.ref B), x4', x5] ∧ But D H H' ∧ H' D = some (.lst ((z.take i ++ pl.drop i).map V.str))) ⟨_, rfl, But.refl H, hD⟩ (fun i σ H' lt h => ?_) (fun σ H' h => ?_)
  · obtain ⟨x4', rfl, b', hd'⟩ := h
    have kt := b'.keepT hD
    have ek : ks[i]? = some ks[i] := List.getElem?_eq_getElem lt
    obtain ⟨x, ex⟩ : ∃ x, r[i]? = some x := ⟨_, List.getElem?_eq_getElem (by rw [dp_len hr, List.length_map]; exact lt)⟩
    have dx : Dp K H' x (enc ks[i]) := dkeep kt (dp_get hr ex (by rw [List.getElem?_map, ek]; rfl)) (enc_nol _)
    rw [enc_eq] at dx
    obtain ⟨ai, xs, rfl, hqi, dt⟩ := dp_tup dx
    obtain ⟨y0, r0, rfl, e0, _⟩ := dp_all dt
    obtain rfl := dp_str e0
    obtain ⟨b, eb⟩ : ∃ b, bl[i]? = some b := ⟨_, List.getElem?_eq_getElem (by omega)⟩
    obtain ⟨ws, ews⟩ : ∃ ws, bs[i]? = some ws := ⟨_, List.getElem?_eq_getElem (by omega)⟩
    have hbb := b' _ _ (hb i b ws eb ews) (nb b (List.mem_of_getElem? eb))
    have hBB := b' _ _ hB nB
    have hzi : i < z.length := by omega
    have hpi : i < pl.length := by omega
    have epi : pl[i] = sS (px ks[i]) := by
      have : pl[i]? = some (sS (px ks[i])) := by rw [← ep, List.getElem?_map, ek]; rfl
      rw [List.getElem?_eq_getElem hpi] at this
      exact Option.some.inj this
    have ezi : z[i] = sS (bx (List.contains ws (wd ks[i])) (px ks[i])) := by
      have : z[i]? = some (sS (bx (List.contains ws (wd ks[i])) (px ks[i]))) := by rw [← ez, List.getElem?_zipWith, ek, ews]
      rw [List.getElem?_eq_getElem hzi] at this
      exact Option.some.inj this
    have e01 : (0 : Int) + (i : Int) = ((i : Nat) : Int) := by omega
    have e02 : (1 : Int) + (i : Int) = ((i + 1 : Nat) : Int) := by omega
    have hst := step_drop hzi hpi
    have hcur : (z.take i ++ pl.drop i)[i]? = some (sS (px ks[i])) := by
      rw [List.getElem?_append_right (by rw [List.length_take]; omega), List.length_take, List.getElem?_drop, show min i z.length = i by omega, Nat.sub_self, Nat.add_zero, List.getElem?_eq_getElem hpi, epi]
    rw [e01]
    refine ⟨_, rfl, _, rfl, _, _, rfl, rfl, a, _, _, .ref ai, rfl, rfl, kt.sqt hq, by rw [e02]; exact atI_nat ex, ?_⟩
    refine ⟨ai, _, 0, .str (wd ks[i]), rfl, rfl, hqi, atI_nat (j := 0) rfl, ?_⟩
    refine ⟨_, rfl, _, rfl, B, _, i, .ref b, rfl, rfl, SqL.of hBB, atI_nat (by rw [List.getElem?_map, eb]; rfl), ?_⟩
    refine ⟨b, _, rfl, seq_lst hbb, rfl, flat_strs ws, _, rfl, ?_⟩
    refine ite2 (fun c => ?_) (fun c => ?_)
    · have c' : ws.contains (wd ks[i]) = true := inV_str.symm.trans c
      rw [c'] at ezi
      have hli := hl ks[i] (List.getElem_mem lt)
      refine ⟨_, rfl, _, rfl, D, _, i, .str (sS (px ks[i])), rfl, rfl, SqL.of hd', atI_nat (by rw [List.getElem?_map, hcur]; rfl), ?_⟩
      refine k_cat (l := [91]) (m := px ks[i]) (by decide +kernel) rfl (by simp only [List.length_cons, List.length_nil]; omega) ?_
      refine k_lit (m := [93]) rfl (by decide +kernel) (by simp only [List.length_append, List.length_cons, List.length_nil]; omega) ?_
      refine ⟨_, rfl, _, rfl, D, _, i, i, rfl, rfl, hd', ?_, ?_⟩
      · have hll : (z.take i ++ pl.drop i).length = ks.length := by rw [List.length_append, List.length_take, List.length_drop]; omega
        unfold ixN
        rw [List.length_map, hll, if_pos (by omega), if_pos (by omega)]
        simp
      · refine ⟨_, rfl, b'.trans but_upd, ?_⟩
        rw [upd_same, hst, ezi, List.map_set]
        rfl
    · have c' : ws.contains (wd ks[i]) = false := inV_str.symm.trans (Bool.eq_false_iff.mpr c)
      rw [c'] at ezi
      refine ⟨_, rfl, b', ?_⟩
      rw [hd', hst, ezi]
      have e4 : (z.take i ++ pl.drop i).set i (sS (px ks[i])) = z.take i ++ pl.drop i := set_same hcur
      have e5 : bx false (px ks[i]) = px ks[i] := rfl
      rw [e5, e4]
  · obtain ⟨x4', rfl, b', hd'⟩ := h
    refine q x4' H' b' ?_
    rw [hd', ← hz, List.take_length, List.drop_eq_nil_of_le (by omega), List.append_nil]
abbrev dsp (x y z : V) : List (Key × V) := [(.inr ("not" : Str), x), (.inr ("and" : Str), y), (.inr ("or" : Str), z)]
theorem inr_ne {a b : Str} (h : decide (a = b) = false) : ¬ (Sum.inr a : Key) = .inr b := fun e => sne h (Sum.inr.inj e)
theorem put_new2 {kvs : List (Key × V)} {k : Key} {v : V} (h : ∀ p ∈ kvs, ¬ p.1 = k) : putK kvs k v = kvs ++ [(k, v)] := by
  unfold putK
  rw [if_neg]
  intro e
  obtain ⟨p, hp, e2⟩ := List.any_eq_true.mp e
  exact h p hp (of_decide_eq_true e2)
theorem dsp_merge (x y z : V) : mergeK [] (dsp x y z) = dsp x y z := by
  show putK (putK (putK ([] : List (Key × V)) (.inr ("not" : Str)) x) (.inr ("and" : Str)) y) (.inr ("or" : Str)) z = _
  have e1 : putK ([] : List (Key × V)) (.inr ("not" : Str)) x = [(.inr ("not" : Str), x)] := put_new2 (kvs := []) (fun p hp => absurd hp (by simp))
  have e2 : putK ([(.inr ("not" : Str), x)] : List (Key × V)) (.inr ("and" : Str)) y = [(.inr ("not" : Str), x), (.inr ("and" : Str), y)] := put_new2 (fun p hp => by
    obtain rfl := List.mem_singleton.mp hp
    exact inr_ne (by decide +kernel))
  have e3 : putK ([(.inr ("not" : Str), x), (.inr ("and" : Str), y)] : List (Key × V)) (.inr ("or" : Str)) z = dsp x y z := put_new2 (fun p hp => by
    simp only [List.mem_cons, List.not_mem_nil, or_false] at hp
    rcases hp with rfl | rfl
    · exact inr_ne (by decide +kernel)
    · exact inr_ne (by decide +kernel))
  rw [e1, e2, e3]
theorem dsp_not (x y z : V) : valV (dsp x y z) (Sum.inr ("not" : Str)) = some x := valV_pos (p := (Sum.inr ("not" : Str), x)) rfl
theorem dsp_and (x y z : V) : valV (dsp x y z) (Sum.inr ("and" : Str)) = some y := (valV_neg (p := (Sum.inr ("not" : Str), x)) (inr_ne (by decide +kernel))).trans (valV_pos (p := (Sum.inr ("and" : Str), y)) rfl)
theorem dsp_or (x y z : V) : valV (dsp x y z) (Sum.inr ("or" : Str)) = some z :=
  (valV_neg (p := (Sum.inr ("not" : Str), x)) (inr_ne (by decide +kernel))).trans ((valV_neg (p := (Sum.inr ("and" : Str), y)) (inr_ne (by decide +kernel))).trans (valV_pos (p := (Sum.inr ("or" : Str), z)) rfl))
theorem seq_asg {te : TE} {g : TG} {b : TS} {D : Ends} {σ : L2.St} {H : Hp} (h : te σ H fun x H1 => g x σ H1 (b D)) : tSeq (tAsg te g) b D σ H := h
theorem none_of {H H' : Hp} {a : Addr} (s : Same H H') (h : H' a = none) : H a = none := by
  cases e : H a with
  | none => rfl
  | some o => rw [s _ _ e] at h; cases h
/-- which words stand in brackets, by place -/
inductive Bars : Str → List (List Str) → Prop where
  | neg : Bars "not" [["and", "or"]]
  | conj : Bars "and" [["or"], ["and", "or"]]
  | disj : Bars "or" [[], ["or"]]
theorem disp_run {σ : L2.St} {H : Hp} {Q : VK} {w0 : Str} {bs : List (List Str)} (h1 : σ[1]? = some (some (.str w0))) (hw : Bars w0 bs)
    (q : ∀ (B : Addr) (bl : List Addr) (H' : Hp), H B = none → (∀ b ∈ bl, H b = none) → Same H H' → H' B = some (.lst (bl.map V.ref)) → bl.length = bs.length → (∀ (i : Nat) (b : Addr) (ws : List Str), bl[i]? = some b → bs[i]? = some ws → H' b = some (.lst (ws.map V.str))) → Q (.ref B) H') :
    tDGet (tDisp [(tC (.str "not"), tLst (tCons (tLst (tCons (tC (.str "and")) (tCons (tC (.str "or")) tNil))) tNil)),
      (tC (.str "and"), tLst (tCons (tLst (tCons (tC (.str "or")) tNil)) (tCons (tLst (tCons (tC (.str "and")) (tCons (tC (.str "or")) tNil))) tNil))),
      (tC (.str "or"), tLst (tCons (tLst tNil) (tCons (tLst (tCons (tC (.str "or")) tNil)) tNil)))]) (tVar 1) σ H Q := by
  intro p np
  refine ⟨by show 2 ≤ sizeLine; decide, fun b1 n1 => ⟨by show 1 ≤ sizeLine; decide, fun b2 n2 => ?_⟩⟩
  refine ⟨by show 1 ≤ sizeLine; decide, fun b3 n3 => ⟨by show 2 ≤ sizeLine; decide, fun b4 n4 => ⟨by show 2 ≤ sizeLine; decide, fun b5 n5 => ?_⟩⟩⟩
  refine ⟨by show 0 ≤ sizeLine; decide, fun b6 n6 => ⟨by show 1 ≤ sizeLine; decide, fun b7 n7 => ⟨by show 2 ≤ sizeLine; decide, fun b8 n8 => ?_⟩⟩⟩
  have s0 := same_upd (o := .dK []) np
  have s1 := same_upd (o := .lst [.str "and", .str "or"]) n1
  have s2 := same_upd (o := .lst [.ref b1]) n2
  have s3 := same_upd (o := .lst [.str "or"]) n3
  have s4 := same_upd (o := .lst [.str "and", .str "or"]) n4
  have s5 := same_upd (o := .lst [.ref b3, .ref b4]) n5
  have s6 := same_upd (o := .lst []) n6
  have s7 := same_upd (o := .lst [.str "or"]) n7
  have s8 := same_upd (o := .lst [.ref b6, .ref b7]) n8
  have t8 := s8
  have t7 := s7.trans t8
  have t6 := s6.trans t7
  have t5 := s5.trans t6
  have t4 := s4.trans t5
  have t3 := s3.trans t4
  have t2 := s2.trans t3
  have t1 := s1.trans t2
  have f1 := t2 b1 _ (upd_same (o := .lst [.str "and", .str "or"]))
  have f2 := t3 b2 _ (upd_same (o := .lst [.ref b1]))
  have f3 := t4 b3 _ (upd_same (o := .lst [.str "or"]))
  have f4 := t5 b4 _ (upd_same (o := .lst [.str "and", .str "or"]))
  have f5 := t6 b5 _ (upd_same (o := .lst [.ref b3, .ref b4]))
  have f6 := t7 b6 _ (upd_same (o := .lst []))
  have f7 := t8 b7 _ (upd_same (o := .lst [.str "or"]))
  have z0 := s0
  have z1 := z0.trans s1
  have z2 := z1.trans s2
  have z3 := z2.trans s3
  have z4 := z3.trans s4
  have z5 := z4.trans s5
  have z6 := z5.trans s6
  have z7 := z6.trans s7
  have fp := t1 p _ (upd_same (o := .dK []))
  have f8 : (upd (upd (upd (upd (upd (upd (upd (upd (upd H p (.dK [])) b1 (.lst [.str "and", .str "or"])) b2 (.lst [.ref b1])) b3 (.lst [.str "or"])) b4 (.lst [.str "and", .str "or"])) b5 (.lst [.ref b3, .ref b4])) b6 (.lst [])) b7 (.lst [.str "or"])) b8 (.lst [.ref b6, .ref b7])) b8 = some (.lst [.ref b6, .ref b7]) := upd_same
  have sE := z7.trans s8
  refine ⟨fp, dsp (.ref b2) (.ref b5) (.ref b8), rfl, by show 3 ≤ 15; decide, ?_⟩
  rw [dsp_merge]
  have m1 := none_of z0 n1
  have m2 := none_of z1 n2
  have m3 := none_of z2 n3
  have m4 := none_of z3 n4
  have m5 := none_of z4 n5
  have m6 := none_of z5 n6
  have m7 := none_of z6 n7
  have m8 := none_of z7 n8
  generalize (upd (upd (upd (upd (upd (upd (upd (upd (upd H p (.dK [])) b1 (.lst [.str "and", .str "or"])) b2 (.lst [.ref b1])) b3 (.lst [.str "or"])) b4 (.lst [.str "and", .str "or"])) b5 (.lst [.ref b3, .ref b4])) b6 (.lst [])) b7 (.lst [.str "or"])) b8 (.lst [.ref b6, .ref b7])) = E8 at *
  have np' : ∀ {b : Addr} {o : List V}, E8 b = some (.lst o) → (upd E8 p (.dK (dsp (.ref b2) (.ref b5) (.ref b8)))) b = some (.lst o) := fun {b o} h => by
    rw [upd_ne fun z => by rw [z, fp] at h; cases h]; exact h
  have sF : Same H (upd E8 p (.dK (dsp (.ref b2) (.ref b5) (.ref b8)))) := fun b o h => by
    rw [upd_ne (ne_of_none h np)]; exact sE _ _ h
  cases hw with
  | neg =>
    refine ⟨_, h1, p, .ref b2, rfl, .inl ⟨dsp (.ref b2) (.ref b5) (.ref b8), .inr ("not" : Str), .inl upd_same, rfl, (dsp_not _ _ _).symm⟩, ?_⟩
    refine q b2 [b1] _ m2 (fun b hb => ?_) sF (np' f2) rfl (fun i b ws e1 e2 => ?_)
    · obtain rfl := List.mem_singleton.mp hb; exact m1
    · cases i with
      | zero => cases e1; cases e2; exact np' f1
      | succ i => cases e1
  | conj =>
    refine ⟨_, h1, p, .ref b5, rfl, .inl ⟨dsp (.ref b2) (.ref b5) (.ref b8), .inr ("and" : Str), .inl upd_same, rfl, ?_⟩, ?_⟩
    · exact (dsp_and _ _ _).symm
    refine q b5 [b3, b4] _ m5 (fun b hb => ?_) sF (np' f5) rfl (fun i b ws e1 e2 => ?_)
    · simp only [List.mem_cons, List.not_mem_nil, or_false] at hb
      rcases hb with rfl | rfl
      · exact m3
      · exact m4
    · match i, e1, e2 with
      | 0, e1, e2 => cases e1; cases e2; exact np' f3
      | 1, e1, e2 => cases e1; cases e2; exact np' f4
      | i + 2, e1, _ => cases e1
  | disj =>
    refine ⟨_, h1, p, .ref b8, rfl, .inl ⟨dsp (.ref b2) (.ref b5) (.ref b8), .inr ("or" : Str), .inl upd_same, rfl, ?_⟩, ?_⟩
    · exact (dsp_or _ _ _).symm
    refine q b8 [b6, b7] _ m8 (fun b hb => ?_) sF (np' f8) rfl (fun i b ws e1 e2 => ?_)
    · simp only [List.mem_cons, List.not_mem_nil, or_false] at hb
      rcases hb with rfl | rfl
      · exact m6
      · exact m7
    · match i, e1, e2 with
      | 0, e1, e2 => cases e1; cases e2; exact np' f6
      | 1, e1, e2 => cases e1; cases e2; exact np' f7
      | i + 2, e1, _ => cases e1
section
variable {P : Program} {w : World} {K : PySem.W.Frag} {mg : Str → Option Value} {base : Heap}
theorem ok__law_text (T : Tp w K mg) {d : Nat} (G__law_text : Cl P w K mg base (d + 1) "_law_text" P__law_text (spLt K d)) : Cl P w K mg base (d + 2) "_law_text" P__law_text (spLt K (d + 1)) := by
  refine cl_of T.f__law_text T.g__law_text sc__law_text (fun _ F => b__law_text F) (fun vs H Q E h => by obtain ⟨v, n, b, rfl, _⟩ := h; rfl) (fun cdv A outer s H vs Q E hr h => ?_)
  obtain ⟨v, n, bb, rfl, dn, hw, hd, hl, k⟩ := h
  rw [enc_eq] at dn
  obtain ⟨a, xs, rfl, hq, dt⟩ := dp_tup dn
  obtain ⟨x0, r0, rfl, d0, da⟩ := dp_all dt
  obtain rfl := dp_str d0
  refine ⟨_, (pss_cons (ps_set (i := 1) sc__law_text.nd rfl (Or.inl rfl) (pe_ix ix_tup (pv 0) pe_int (fun _ _ => rfl)))
      (pss_cons (ps_if (pt_cmpR op_eq (pv 1) pe_str (nomark _)) (pss_one (ps_ret (pe_ix ix_tup (pv 0) pe_int (fun _ _ => rfl)))) pss_nil)
      (pss_cons (ps_if (pt_cmpR op_eq (pv 1) pe_str (nomark _)) (pss_one (ps_ret (pe_op op_cat2 pe_str (pe_callTy call_str_int rfl T.z_str (by decide +kernel) (pa_cons (pe_ix ix_tup (pv 0) pe_int (fun _ _ => rfl)) pa_nil))))) pss_nil)
      (pss_cons (ps_if (pt_cmpR op_eq (pv 1) pe_str (nomark _)) (pss_one (ps_ret (pe_op op_cat2 (pe_op op_cat2 (pe_cl G__law_text hr (by omega) pasE (pa_cons (pe_ix ix_tup (pv 0) pe_int (fun _ _ => rfl)) pa_nil)) (pe_ix ix_list (pe_lst (pa_cons pe_str (pa_cons pe_str pa_nil))) (pe_callTy call_int1 rfl T.z_int (by decide +kernel) (pa_cons (pe_cmpR op_lt (pe_ix ix_tup (pv 0) pe_int (fun _ _ => rfl)) pe_int (nomark _)) pa_nil)) (fun _ _ => rfl))) (pe_callTy call_str_int rfl T.z_str (by decide +kernel) (pa_cons (pe_callB call_abs rfl T.z_abs (by decide +kernel) (pa_cons (pe_ix ix_tup (pv 0) pe_int (fun _ _ => rfl)) pa_nil)) pa_nil))))) pss_nil)
      (pss_cons (ps_if (pt_cmpR op_in_seq (pv 1) (pe_lst (pa_cons pe_str (pa_cons pe_str pa_nil))) (by rfl)) (pss_one (ps_ret (pe_op op_cat2 (pe_op op_cat2 (pe_op op_cat2 (pe_op op_cat2 (pe_op op_cat2 (pv 1) pe_str) (pe_ix ix_tup (pv 0) pe_int (fun _ _ => rfl))) pe_str) (pe_cl G__law_text hr (by omega) pasE (pa_cons (pe_ix ix_tup (pv 0) pe_int (fun _ _ => rfl)) pa_nil))) pe_str))) pss_nil)
      (pss_cons (ps_if (pt_cmpR op_eq (pv 1) pe_str (nomark _)) (pss_one (ps_ret (pe_op op_cat2 (pe_op op_cat2 (pe_op op_cat2 (pe_op op_cat2 (pe_op op_cat2 (pe_op op_cat2 pe_str (pe_ix ix_tup (pv 0) pe_int (fun _ _ => rfl))) pe_str) (pe_callTy call_str_int rfl T.z_str (by decide +kernel) (pa_cons (pe_ix ix_tup (pv 0) pe_int (fun _ _ => rfl)) pa_nil))) pe_str) (pe_cl G__law_text hr (by omega) pasE (pa_cons (pe_ix ix_tup (pv 0) pe_int (fun _ _ => rfl)) pa_nil))) pe_str))) pss_nil)
      (pss_cons (ps_if (pt_cmpR op_in_seq (pv 1) (pe_lst (pa_cons pe_str (pa_cons pe_str (pa_cons pe_str pa_nil)))) (by rfl)) (pss_one (ps_ret (pe_op op_cat2 (pe_op op_cat2 (pe_op op_cat2 (pv 1) pe_str) (pe_join pe_str (pe_lc (own := [("_law_part", 5)]) (g := gName 5) rfl sc__law_text.nd (pi_tup (pe_slice sl_tup (pv 0) (po_some pe_int) po_none)) (blkOk_by (own := [("_law_part", 5)]) (N := N__law_text) (sc := defScope s__law_text) (by decide +kernel)) (fun _ _ _ _ _ => (pg_name (i := 5) sc__law_text.nd rfl (Or.inl rfl))) (fun _ _ _ _ _ => pts_nil) (fun _ _ _ _ _ => (pe_cl G__law_text hr (by omega) pas0 (pa_cons (pv 5) pa_nil)))))) pe_str))) pss_nil)
      (pss_cons (ps_if (pt_cmpR op_eq (pv 1) pe_str (nomark _)) (pss_one (ps_ret (pe_op op_cat2 (pe_op op_cat2 (pe_cl G__law_text hr (by omega) pasE (pa_cons (pe_ix ix_tup (pv 0) pe_int (fun _ _ => rfl)) pa_nil)) pe_str) (pe_cl G__law_text hr (by omega) pasE (pa_cons (pe_ix ix_tup (pv 0) pe_int (fun _ _ => rfl)) pa_nil))))) pss_nil)
      (pss_cons (ps_if (pt_cmpR op_eq (pv 1) pe_str (nomark _)) (pss_one (ps_ret (pe_op op_cat2 (pe_op op_cat2 (pe_op op_cat2 (pe_op op_cat2 pe_str (pe_ix ix_tup (pv 0) pe_int (fun _ _ => rfl))) pe_str) (pe_cl G__law_text hr (by omega) pasE (pa_cons (pe_ix ix_tup (pv 0) pe_int (fun _ _ => rfl)) pa_nil))) pe_str))) pss_nil)
      (pss_cons (ps_if (pt_cmpR op_eq (pv 1) pe_str (nomark _)) (pss_one (ps_ret (pe_op op_cat2 pe_str (pe_ix ix_tup (pv 0) pe_int (fun _ _ => rfl))))) pss_nil)
      (pss_cons (ps_if (pt_cmpR op_eq (pv 1) pe_str (nomark _)) (pss_one (ps_ret pe_str)) pss_nil)
      (pss_cons (ps_setLc (i := 2) (own := [("_law_part", 5)]) (g := gName 5) rfl sc__law_text.nd rfl rfl (sw_true rfl rfl rfl (by decide +kernel)) (pi_tup (pe_slice sl_tup (pv 0) (po_some pe_int) po_none)) (blkOk_by (own := [("_law_part", 5)]) (N := N__law_text) (sc := defScope s__law_text) (by decide +kernel)) (fun _ _ _ _ _ => (pg_name (i := 5) sc__law_text.nd rfl (Or.inl rfl))) (fun _ _ _ _ _ => pts_nil) (fun _ _ _ _ _ => (pe_cl G__law_text hr (by omega) pas0 (pa_cons (pv 5) pa_nil))))
      (pss_cons (ps_set (i := 3) sc__law_text.nd rfl (Or.inl rfl) (pe_dget (u1 hr) (pe_disp (pps_cons pe_str (pe_lst (pa_cons (pe_lst (pa_cons pe_str (pa_cons pe_str pa_nil))) pa_nil)) (pps_cons pe_str (pe_lst (pa_cons (pe_lst (pa_cons pe_str pa_nil)) (pa_cons (pe_lst (pa_cons pe_str (pa_cons pe_str pa_nil))) pa_nil))) (pps_cons pe_str (pe_lst (pa_cons (pe_lst pa_nil) (pa_cons (pe_lst (pa_cons pe_str pa_nil)) pa_nil))) pps_nil))) (by rfl) (by rfl) (fun z => by cases z) (by decide)) (pv 1) (fun _ _ => rfl)))
      (pss_cons (ps_for pOwn rfl (pi_range1 rfl T.z_range (pa_cons (pe_callB call_len_seq rfl T.z_len PySem.boot_len (pa_cons (pv 2) pa_nil)) pa_nil)) (pg_name (i := 4) sc__law_text.nd rfl (Or.inl rfl)) (pss_one (ps_if (pt_cmpR op_in_seq (pe_ix ix_tup (pe_ix ix_tup (pv 0) (pe_op op_add pe_int (pv 4)) (fun _ _ => rfl)) pe_int (fun _ _ => rfl)) (pe_ix ix_list (pv 3) (pv 4) (fun _ _ => rfl)) (by rfl)) (pss_one (ps_asg (pe_op op_cat2 (pe_op op_cat2 pe_str (pe_ix ix_list (pv 2) (pv 4) (fun _ _ => rfl))) pe_str) (pg_sub (pv 2) (pv 4) set_list))) pss_nil)))
      (pss_cons (ps_if (pt_cmpR op_eq (pv 1) pe_str (nomark _)) (pss_one (ps_ret (pe_op op_cat2 pe_str (pe_ix ix_list (pv 2) pe_int (fun _ _ => rfl))))) pss_nil)
      (pss_one (ps_ret (pe_op op_cat2 (pe_op op_cat2 (pe_op op_cat2 (pe_op op_cat2 (pe_ix ix_list (pv 2) pe_int (fun _ _ => rfl)) pe_str) (pv 1)) pe_str) (pe_ix ix_list (pv 2) pe_int (fun _ _ => rfl)))))))))))))))))))), ?_⟩
  refine r_ix rfl hq (atI_nat (j := 0) rfl) ?_
  cases n with
  | day x =>
    obtain ⟨x1, r1, rfl, d1, da1⟩ := dp_all da
    obtain rfl := dp_str d1
    refine r_yes rfl (by dsimp only [wd]; decide +kernel) ?_
    refine r_ix rfl hq (atI_nat (j := 1) rfl) ?_
    have q := k H (Same.refl H)
    rw [show px (.day x) = tl x from rfl, sS_tl] at q
    exact q
  | num i =>
    obtain ⟨x1, r1, rfl, d1, da1⟩ := dp_all da
    obtain rfl := dp_int d1
    cases bb with
    | false => exact absurd hw id
    | true =>
    have hw' : -1000000 ≤ i ∧ i ≤ 1000000 := hw
    have hl' : (nx i).length + 1 ≤ 1000000 := hl
    refine r_no rfl (by dsimp only [wd]; decide +kernel) ?_
    refine r_yes rfl (by dsimp only [wd]; decide +kernel) ?_
    refine r_ix rfl hq (atI_nat (j := 1) rfl) ?_
    refine ⟨_, rfl, log_ok (by omega), ?_⟩
    refine k_cat (l := [64]) (m := nx i) (by decide +kernel) (sS_nx i) (by simp only [List.length_cons, List.length_nil]; omega) ?_
    exact k H (Same.refl H)
  | plus t i =>
    obtain ⟨x1, r1, rfl, d1, da1⟩ := dp_all da
    obtain ⟨x2, r2, rfl, d2, da2⟩ := dp_all da1
    obtain rfl := dp_int d2
    cases bb with
    | false => exact absurd hw id
    | true =>
    have hd' : depth t + 1 ≤ d + 1 := hd
    have hpx : px (.plus t i) = px t ++ 32 :: (if i < 0 then 45 else 43) :: 32 :: TL.numL i.natAbs := rfl
    have hl' := hl
    rw [hpx] at hl'
    simp only [List.length_append, List.length_cons] at hl'
    have hw3 := hw.2
    refine r_no rfl (by dsimp only [wd]; decide +kernel) ?_
    refine r_no rfl (by dsimp only [wd]; decide +kernel) ?_
    refine r_yes rfl (by dsimp only [wd]; decide +kernel) ?_
    refine r_ix rfl hq (atI_nat (j := 1) rfl) ?_
    refine ⟨x1, t, true, rfl, d1, hw.1, by omega, by omega, fun H1 s1 => ?_⟩
    refine ⟨by show 2 ≤ sizeLine; decide, fun p np => ?_⟩
    have s2 := s1.trans (same_upd (o := .lst [.str " + ", .str " - "]) np)
    refine r_ix rfl (same_sqt s2 hq) (atI_nat (j := 2) rfl) ?_
    obtain ⟨sg, e1, e2⟩ : ∃ sg : Str, atI [V.str " + ", V.str " - "] (if decide (i < 0) = true then 1 else 0) = some (.str sg) ∧ sg = sS [32, if i < 0 then 45 else 43, 32] := by
      by_cases c : i < 0
      · exact ⟨" - ", by rw [decide_eq_true c]; exact atI_nat (j := 1) rfl, by rw [if_pos c]; decide +kernel⟩
      · exact ⟨" + ", by rw [decide_eq_false c]; exact atI_nat (j := 0) rfl, by rw [if_neg c]; decide +kernel⟩
    refine ⟨_, _, rfl, rfl, .inr ⟨_, rfl, p, _, _, _, rfl, rfl, SqL.of upd_same, e1, ?_⟩⟩
    refine k_cat (l := px t) rfl e2 (by simp only [List.length_append, List.length_cons, List.length_nil]; omega) ?_
    refine r_ix rfl (same_sqt s2 hq) (atI_nat (j := 2) rfl) ?_
    refine ⟨_, rfl, _, rfl, log_ok (by split <;> omega), ?_⟩
    have ea : (if i < 0 then -i else i) = ((i.natAbs : Nat) : Int) := by split <;> omega
    rw [ea]
    refine k_cat (m := TL.numL i.natAbs) rfl (TL.ext_tl (TL.tl_num _)) (by simp only [List.length_append, List.length_cons, List.length_nil]; omega) ?_
    have q := k _ s2
    rw [hpx] at q
    simpa using q
  | near b z t =>
    obtain ⟨x1, r1, rfl, d1, da1⟩ := dp_all da
    obtain ⟨x2, r2, rfl, d2, da2⟩ := dp_all da1
    obtain rfl := dp_str d1
    cases bb with
    | false => exact absurd hw id
    | true =>
    have hd' : depth t + 1 ≤ d + 1 := hd
    have hpx : px (.near b z t) = tl (wd (.near b z t)) ++ 32 :: (tl z ++ 40 :: (px t ++ [41])) := rfl
    have hl' := hl
    rw [hpx] at hl'
    simp only [List.length_append, List.length_cons, List.length_nil] at hl'
    refine r_no rfl (by cases b <;> (dsimp only [wd]; decide +kernel)) ?_
    refine r_no rfl (by cases b <;> (dsimp only [wd]; decide +kernel)) ?_
    refine r_no rfl (by cases b <;> (dsimp only [wd]; decide +kernel)) ?_
    refine r_inL ["next", "prev"] (by decide) rfl (fun _ H1 s1 => ?_) (fun c => absurd c (by cases b <;> (dsimp only [wd]; decide +kernel)))
    refine ⟨_, rfl, k_lit (l := tl (wd (.near b z t))) (m := [32]) (sS_tl _).symm (by decide +kernel) (by simp only [List.length_append, List.length_cons, List.length_nil]; omega) ?_⟩
    refine r_ix rfl (same_sqt s1 hq) (atI_nat (j := 1) rfl) ?_
    refine k_cat (m := tl z) rfl (sS_tl _).symm (by simp only [List.length_append, List.length_cons, List.length_nil]; omega) ?_
    refine k_lit (m := [40]) rfl (by decide +kernel) (by simp only [List.length_append, List.length_cons, List.length_nil]; omega) ?_
    refine r_ix rfl (same_sqt s1 hq) (atI_nat (j := 2) rfl) ?_
    refine ⟨x2, t, true, rfl, Dp.same s1 d2, hw.2, by omega, by omega, fun H2 s2 => ?_⟩
    refine k_cat (m := px t) rfl rfl (by simp only [List.length_append, List.length_cons, List.length_nil]; omega) ?_
    refine k_lit (m := [41]) rfl (by decide +kernel) (by simp only [List.length_append, List.length_cons, List.length_nil]; omega) ?_
    have q := k H2 (s1.trans s2)
    rw [hpx] at q
    simpa using q
  | nth z t i =>
    obtain ⟨x1, r1, rfl, d1, da1⟩ := dp_all da
    obtain ⟨x2, r2, rfl, d2, da2⟩ := dp_all da1
    obtain ⟨x3, r3, rfl, d3, da3⟩ := dp_all da2
    obtain rfl := dp_str d1
    obtain rfl := dp_int d3
    cases bb with
    | false => exact absurd hw id
    | true =>
    have hd' : depth t + 1 ≤ d + 1 := hd
    have hw' := hw.2.2
    have ez : (tl ("open" : Str)).length = 4 := by decide +kernel
    have hpx : px (.nth z t i) = tl ("open" : Str) ++ 32 :: (tl z ++ 32 :: (nx i ++ 40 :: (px t ++ [41]))) := rfl
    have hl' := hl
    rw [hpx] at hl'
    simp only [List.length_append, List.length_cons, List.length_nil] at hl'
    refine r_no rfl (by dsimp only [wd]; decide +kernel) ?_
    refine r_no rfl (by dsimp only [wd]; decide +kernel) ?_
    refine r_no rfl (by dsimp only [wd]; decide +kernel) ?_
    refine r_inL ["next", "prev"] (by decide) rfl (fun c => absurd c (by dsimp only [wd]; decide +kernel)) (fun _ H1 s1 => ?_)
    refine r_yes rfl (by dsimp only [wd]; decide +kernel) ?_
    refine r_ix rfl (same_sqt s1 hq) (atI_nat (j := 1) rfl) ?_
    refine k_cat (l := tl ("open" : Str) ++ [32]) (m := tl z) (by decide +kernel) (sS_tl _).symm (by simp only [List.length_append, List.length_cons, List.length_nil]; omega) ?_
    refine k_lit (m := [32]) rfl (by decide +kernel) (by simp only [List.length_append, List.length_cons, List.length_nil]; omega) ?_
    refine r_ix rfl (same_sqt s1 hq) (atI_nat (j := 3) rfl) ?_
    refine ⟨_, rfl, log_ok (by omega), ?_⟩
    refine k_cat (m := nx i) rfl (sS_nx i) (by simp only [List.length_append, List.length_cons, List.length_nil]; omega) ?_
    refine k_lit (m := [40]) rfl (by decide +kernel) (by simp only [List.length_append, List.length_cons, List.length_nil]; omega) ?_
    refine r_ix rfl (same_sqt s1 hq) (atI_nat (j := 2) rfl) ?_
    refine ⟨x2, t, true, rfl, Dp.same s1 d2, hw.2.1, by omega, by omega, fun H2 s2 => ?_⟩
    refine k_cat (m := px t) rfl rfl (by simp only [List.length_append, List.length_cons, List.length_nil]; omega) ?_
    refine k_lit (m := [41]) rfl (by decide +kernel) (by simp only [List.length_append, List.length_cons, List.length_nil]; omega) ?_
    have q := k H2 (s1.trans s2)
    rw [hpx] at q
    simpa using q
  | pick b t u =>
    cases bb with
    | false => exact absurd hw id
    | true =>
    have hd' : max (depth t) (depth u) + 1 ≤ d + 1 := hd
    have hpx : px (.pick b t u) = tl (wd (.pick b t u)) ++ 40 :: (px t ++ 44 :: 32 :: (px u ++ [41])) := rfl
    have hl' := hl
    rw [hpx] at hl'
    simp only [List.length_append, List.length_cons, List.length_nil] at hl'
    refine r_no rfl (by cases b <;> (dsimp only [wd]; decide +kernel)) ?_
    refine r_no rfl (by cases b <;> (dsimp only [wd]; decide +kernel)) ?_
    refine r_no rfl (by cases b <;> (dsimp only [wd]; decide +kernel)) ?_
    refine r_inL ["next", "prev"] (by decide) rfl (fun c => absurd c (by cases b <;> (dsimp only [wd]; decide +kernel))) (fun _ H1 s1 => ?_)
    refine r_no rfl (by cases b <;> (dsimp only [wd]; decide +kernel)) ?_
    refine r_inL ["later", "earlier", "if"] (by decide) rfl (fun _ H2 s2 => ?_) (fun c => absurd c (by cases b <;> (dsimp only [wd]; decide +kernel)))
    have s2 := s1.trans s2
    refine ⟨_, rfl, k_lit (l := tl (wd (.pick b t u))) (m := [40]) (sS_tl _).symm (by decide +kernel) (by simp only [List.length_append, List.length_cons, List.length_nil]; omega) ?_⟩
    refine ⟨⟨_, rfl⟩, ?_⟩
    have hlc : (", " : Str).length = 2 := by decide +kernel
    refine t_kids (j := 5) (ks := [t, u]) rfl (same_sqt s2 hq) (DpAll.same s2 da) (fun n hn => ?_) (by show 5 < 6; decide) (by show 2 ≤ 10; decide) fun D H' nD s3 hD => ?_
    · simp only [List.mem_cons, List.not_mem_nil, or_false] at hn
      rcases hn with rfl | rfl
      · exact ⟨⟨true, hw.1⟩, by omega, by omega⟩
      · exact ⟨⟨true, hw.2⟩, by omega, by omega⟩
    refine ⟨_, D, [sS (px t), sS (px u)], rfl, rfl, .inl (SqL.of hD), ?_, ?_⟩
    · simp only [List.map_cons, List.map_nil, List.sum_cons, List.sum_nil, sS_len, hlc, List.length_cons, List.length_nil]
      omega
    rw [join2]
    refine k_cat (m := px t ++ 44 :: 32 :: px u) rfl rfl (by simp only [List.length_append, List.length_cons, List.length_nil]; omega) ?_
    refine k_lit (m := [41]) rfl (by decide +kernel) (by simp only [List.length_append, List.length_cons, List.length_nil]; omega) ?_
    have q := k H' (s2.trans s3)
    rw [hpx] at q
    simpa using q
  | ite c t u =>
    cases bb with
    | false => exact absurd hw id
    | true =>
    have hd' : max (depth c) (max (depth t) (depth u)) + 1 ≤ d + 1 := hd
    have ez : (tl ("if" : Str)).length = 2 := by decide +kernel
    have hpx : px (.ite c t u) = tl ("if" : Str) ++ 40 :: (px c ++ 44 :: 32 :: (px t ++ 44 :: 32 :: (px u ++ [41]))) := rfl
    have hl' := hl
    rw [hpx] at hl'
    simp only [List.length_append, List.length_cons, List.length_nil] at hl'
    refine r_no rfl (by dsimp only [wd]; decide +kernel) ?_
    refine r_no rfl (by dsimp only [wd]; decide +kernel) ?_
    refine r_no rfl (by dsimp only [wd]; decide +kernel) ?_
    refine r_inL ["next", "prev"] (by decide) rfl (fun c => absurd c (by dsimp only [wd]; decide +kernel)) (fun _ H1 s1 => ?_)
    refine r_no rfl (by dsimp only [wd]; decide +kernel) ?_
    refine r_inL ["later", "earlier", "if"] (by decide) rfl (fun _ H2 s2 => ?_) (fun c => absurd c (by dsimp only [wd]; decide +kernel))
    have s2 := s1.trans s2
    refine ⟨_, rfl, k_lit (l := tl ("if" : Str)) (m := [40]) (sS_tl _).symm (by decide +kernel) (by simp only [List.length_append, List.length_cons, List.length_nil]; omega) ?_⟩
    refine ⟨⟨_, rfl⟩, ?_⟩
    have hlc : (", " : Str).length = 2 := by decide +kernel
    refine t_kids (j := 5) (ks := [c, t, u]) rfl (same_sqt s2 hq) (DpAll.same s2 da) (fun n hn => ?_) (by show 5 < 6; decide) (by show 3 ≤ 10; decide) fun D H' nD s3 hD => ?_
    · simp only [List.mem_cons, List.not_mem_nil, or_false] at hn
      rcases hn with rfl | rfl | rfl
      · exact ⟨⟨false, hw.1⟩, by omega, by omega⟩
      · exact ⟨⟨true, hw.2.1⟩, by omega, by omega⟩
      · exact ⟨⟨true, hw.2.2⟩, by omega, by omega⟩
    refine ⟨_, D, [sS (px c), sS (px t), sS (px u)], rfl, rfl, .inl (SqL.of hD), ?_, ?_⟩
    · simp only [List.map_cons, List.map_nil, List.sum_cons, List.sum_nil, sS_len, hlc, List.length_cons, List.length_nil]
      omega
    rw [join3]
    refine k_cat (m := px c ++ 44 :: 32 :: (px t ++ 44 :: 32 :: px u)) rfl rfl (by simp only [List.length_append, List.length_cons, List.length_nil]; omega) ?_
    refine k_lit (m := [41]) rfl (by decide +kernel) (by simp only [List.length_append, List.length_cons, List.length_nil]; omega) ?_
    have q := k H' (s2.trans s3)
    rw [hpx] at q
    simpa using q
  | le t u =>
    obtain ⟨x1, r1, rfl, d1, da1⟩ := dp_all da
    obtain ⟨x2, r2, rfl, d2, da2⟩ := dp_all da1
    cases bb with
    | true => exact absurd hw id
    | false =>
    have hd' : max (depth t) (depth u) + 1 ≤ d + 1 := hd
    have hpx : px (.le t u) = px t ++ 32 :: 60 :: 61 :: 32 :: px u := rfl
    have hl' := hl
    rw [hpx] at hl'
    simp only [List.length_append, List.length_cons, List.length_nil] at hl'
    refine r_no rfl (by dsimp only [wd]; decide +kernel) ?_
    refine r_no rfl (by dsimp only [wd]; decide +kernel) ?_
    refine r_no rfl (by dsimp only [wd]; decide +kernel) ?_
    refine r_inL ["next", "prev"] (by decide) rfl (fun c => absurd c (by dsimp only [wd]; decide +kernel)) (fun _ H1 s1 => ?_)
    refine r_no rfl (by dsimp only [wd]; decide +kernel) ?_
    refine r_inL ["later", "earlier", "if"] (by decide) rfl (fun c => absurd c (by dsimp only [wd]; decide +kernel)) (fun _ H2 s2 => ?_)
    have s2 := s1.trans s2
    refine r_yes rfl (by dsimp only [wd]; decide +kernel) ?_
    refine r_ix rfl (same_sqt s2 hq) (atI_nat (j := 1) rfl) ?_
    refine ⟨x1, t, true, rfl, Dp.same s2 d1, hw.1, by omega, by omega, fun H3 s3 => ?_⟩
    have s3 := s2.trans s3
    refine k_lit (m := [32, 60, 61, 32]) rfl (by decide +kernel) (by simp only [List.length_append, List.length_cons, List.length_nil]; omega) ?_
    refine r_ix rfl (same_sqt s3 hq) (atI_nat (j := 2) rfl) ?_
    refine ⟨x2, u, true, rfl, Dp.same s3 d2, hw.2, by omega, by omega, fun H4 s4 => ?_⟩
    refine k_cat (m := px u) rfl rfl (by simp only [List.length_append, List.length_cons, List.length_nil]; omega) ?_
    have q := k H4 (s3.trans s4)
    rw [hpx] at q
    simpa using q
  | isO z t =>
    obtain ⟨x1, r1, rfl, d1, da1⟩ := dp_all da
    obtain ⟨x2, r2, rfl, d2, da2⟩ := dp_all da1
    obtain rfl := dp_str d1
    cases bb with
    | true => exact absurd hw id
    | false =>
    have hd' : depth t + 1 ≤ d + 1 := hd
    have ez : (tl ("is" : Str)).length = 2 := by decide +kernel
    have hpx : px (.isO z t) = tl ("is" : Str) ++ 32 :: (tl z ++ 40 :: (px t ++ [41])) := rfl
    have hl' := hl
    rw [hpx] at hl'
    simp only [List.length_append, List.length_cons, List.length_nil] at hl'
    refine r_no rfl (by dsimp only [wd]; decide +kernel) ?_
    refine r_no rfl (by dsimp only [wd]; decide +kernel) ?_
    refine r_no rfl (by dsimp only [wd]; decide +kernel) ?_
    refine r_inL ["next", "prev"] (by decide) rfl (fun c => absurd c (by dsimp only [wd]; decide +kernel)) (fun _ H1 s1 => ?_)
    refine r_no rfl (by dsimp only [wd]; decide +kernel) ?_
    refine r_inL ["later", "earlier", "if"] (by decide) rfl (fun c => absurd c (by dsimp only [wd]; decide +kernel)) (fun _ H2 s2 => ?_)
    have s2 := s1.trans s2
    refine r_no rfl (by dsimp only [wd]; decide +kernel) ?_
    refine r_yes rfl (by dsimp only [wd]; decide +kernel) ?_
    refine r_ix rfl (same_sqt s2 hq) (atI_nat (j := 1) rfl) ?_
    refine k_cat (l := tl ("is" : Str) ++ [32]) (m := tl z) (by decide +kernel) (sS_tl _).symm (by simp only [List.length_append, List.length_cons, List.length_nil]; omega) ?_
    refine k_lit (m := [40]) rfl (by decide +kernel) (by simp only [List.length_append, List.length_cons, List.length_nil]; omega) ?_
    refine r_ix rfl (same_sqt s2 hq) (atI_nat (j := 2) rfl) ?_
    refine ⟨x2, t, true, rfl, Dp.same s2 d2, hw.2, by omega, by omega, fun H3 s3 => ?_⟩
    refine k_cat (m := px t) rfl rfl (by simp only [List.length_append, List.length_cons, List.length_nil]; omega) ?_
    refine k_lit (m := [41]) rfl (by decide +kernel) (by simp only [List.length_append, List.length_cons, List.length_nil]; omega) ?_
    have q := k H3 (s2.trans s3)
    rw [hpx] at q
    simpa using q
  | flag z =>
    obtain ⟨x1, r1, rfl, d1, da1⟩ := dp_all da
    obtain rfl := dp_str d1
    have hl' : (tl z).length + 1 ≤ 1000000 := hl
    refine r_no rfl (by dsimp only [wd]; decide +kernel) ?_
    refine r_no rfl (by dsimp only [wd]; decide +kernel) ?_
    refine r_no rfl (by dsimp only [wd]; decide +kernel) ?_
    refine r_inL ["next", "prev"] (by decide) rfl (fun c => absurd c (by dsimp only [wd]; decide +kernel)) (fun _ H1 s1 => ?_)
    refine r_no rfl (by dsimp only [wd]; decide +kernel) ?_
    refine r_inL ["later", "earlier", "if"] (by decide) rfl (fun c => absurd c (by dsimp only [wd]; decide +kernel)) (fun _ H2 s2 => ?_)
    have s2 := s1.trans s2
    refine r_no rfl (by dsimp only [wd]; decide +kernel) ?_
    refine r_no rfl (by dsimp only [wd]; decide +kernel) ?_
    refine r_yes rfl (by dsimp only [wd]; decide +kernel) ?_
    refine r_ix rfl (same_sqt s2 hq) (atI_nat (j := 1) rfl) ?_
    refine k_cat (l := [63]) (m := tl z) (by decide +kernel) (sS_tl _).symm (by simp only [List.length_append, List.length_cons, List.length_nil]; omega) ?_
    exact k H2 s2
  | yes =>
    refine r_no rfl (by dsimp only [wd]; decide +kernel) ?_
    refine r_no rfl (by dsimp only [wd]; decide +kernel) ?_
    refine r_no rfl (by dsimp only [wd]; decide +kernel) ?_
    refine r_inL ["next", "prev"] (by decide) rfl (fun c => absurd c (by dsimp only [wd]; decide +kernel)) (fun _ H1 s1 => ?_)
    refine r_no rfl (by dsimp only [wd]; decide +kernel) ?_
    refine r_inL ["later", "earlier", "if"] (by decide) rfl (fun c => absurd c (by dsimp only [wd]; decide +kernel)) (fun _ H2 s2 => ?_)
    have s2 := s1.trans s2
    refine r_no rfl (by dsimp only [wd]; decide +kernel) ?_
    refine r_no rfl (by dsimp only [wd]; decide +kernel) ?_
    refine r_no rfl (by dsimp only [wd]; decide +kernel) ?_
    refine r_yes rfl (by dsimp only [wd]; decide +kernel) ?_
    have q := k H2 s2
    rw [show px .yes = tl ("yes" : Str) from rfl, sS_tl] at q
    exact q
  | neg c =>
    cases bb with
    | true => exact absurd hw id
    | false =>
    have hd' : depth c + 1 ≤ d + 1 := hd
    have hpx : px (.neg c) = tl ("not" : Str) ++ 32 :: bx (isAO c) (px c) := rfl
    have ez : (tl ("not" : Str)).length = 3 := by decide +kernel
    have hl' := hl
    rw [hpx] at hl'
    simp only [List.length_append, List.length_cons, List.length_nil] at hl'
    have hb1 := bx_len (isAO c) (px c)
    refine r_no rfl (by dsimp only [wd]; decide +kernel) ?_
    refine r_no rfl (by dsimp only [wd]; decide +kernel) ?_
    refine r_no rfl (by dsimp only [wd]; decide +kernel) ?_
    refine r_inL ["next", "prev"] (by decide) rfl (fun c => absurd c (by dsimp only [wd]; decide +kernel)) (fun _ H1 s1 => ?_)
    refine r_no rfl (by dsimp only [wd]; decide +kernel) ?_
    refine r_inL ["later", "earlier", "if"] (by decide) rfl (fun c => absurd c (by dsimp only [wd]; decide +kernel)) (fun _ H2 s2 => ?_)
    have s2 := s1.trans s2
    refine r_no rfl (by dsimp only [wd]; decide +kernel) ?_
    refine r_no rfl (by dsimp only [wd]; decide +kernel) ?_
    refine r_no rfl (by dsimp only [wd]; decide +kernel) ?_
    refine r_no rfl (by dsimp only [wd]; decide +kernel) ?_
    dsimp only
    refine seq_asg ?_
    refine t_kids (j := 5) (ks := [c]) rfl (same_sqt s2 hq) (DpAll.same s2 da) (fun n hn => ?_) (by show 5 < 6; decide) (by show 1 ≤ 10; decide) fun D H3 nD s3 hD => ?_
    · simp only [List.mem_cons, List.not_mem_nil, or_false] at hn
      rcases hn with rfl
      exact ⟨⟨false, hw⟩, by omega, by omega⟩
    refine seq_asg ?_
    refine disp_run rfl .neg fun B bl H4 nB nbl s4 hB hbl hbb => ?_
    have s34 := s3.trans s4
    refine bar_run (ks := [c]) (bs := [["and", "or"]]) (same_sqt (s2.trans s34) hq) (DpAll.same (s2.trans s34) da) (s4 _ _ hD) hB hbb hbl rfl (Ne.symm (ne_of_none hD nB)) (fun b hb => Ne.symm (ne_of_none hD (nbl b hb))) (fun n hn => ?_) (by show 1 ≤ 10; decide) fun x4' H5 b5 hD5 => ?_
    · simp only [List.mem_cons, List.not_mem_nil, or_false] at hn
      rcases hn with rfl
      omega
    have s5 : Same H H5 := fun b o h => b5 _ _ ((s2.trans s34) _ _ h) (ne_of_none h (none_of s2 nD))
    refine r_yes rfl (by dsimp only [wd]; decide +kernel) ?_
    refine ⟨_, rfl, D, _, 0, .str (sS (bx (isAO c) (px c))), rfl, rfl, SqL.of hD5, ?_, ?_⟩
    · rw [← br_ao]; exact atI_nat (j := 0) rfl
    refine k_cat (l := tl ("not" : Str) ++ [32]) (m := bx (isAO c) (px c)) (by decide +kernel) rfl (by simp only [List.length_append, List.length_cons, List.length_nil]; omega) ?_
    have q := k H5 s5
    rw [hpx] at q
    simpa using q
  | conj c e =>
    cases bb with
    | true => exact absurd hw id
    | false =>
    have hd' : max (depth c) (depth e) + 1 ≤ d + 1 := hd
    have hpx : px (.conj c e) = bx (isOr c) (px c) ++ 32 :: (tl ("and" : Str) ++ 32 :: bx (isAO e) (px e)) := rfl
    have ez : (tl ("and" : Str)).length = 3 := by decide +kernel
    have hl' := hl
    rw [hpx] at hl'
    simp only [List.length_append, List.length_cons, List.length_nil] at hl'
    have hb1 := bx_len (isOr c) (px c)
    have hb2 := bx_len (isAO e) (px e)
    refine r_no rfl (by dsimp only [wd]; decide +kernel) ?_
    refine r_no rfl (by dsimp only [wd]; decide +kernel) ?_
    refine r_no rfl (by dsimp only [wd]; decide +kernel) ?_
    refine r_inL ["next", "prev"] (by decide) rfl (fun c => absurd c (by dsimp only [wd]; decide +kernel)) (fun _ H1 s1 => ?_)
    refine r_no rfl (by dsimp only [wd]; decide +kernel) ?_
    refine r_inL ["later", "earlier", "if"] (by decide) rfl (fun c => absurd c (by dsimp only [wd]; decide +kernel)) (fun _ H2 s2 => ?_)
    have s2 := s1.trans s2
    refine r_no rfl (by dsimp only [wd]; decide +kernel) ?_
    refine r_no rfl (by dsimp only [wd]; decide +kernel) ?_
    refine r_no rfl (by dsimp only [wd]; decide +kernel) ?_
    refine r_no rfl (by dsimp only [wd]; decide +kernel) ?_
    dsimp only
    refine seq_asg ?_
    refine t_kids (j := 5) (ks := [c, e]) rfl (same_sqt s2 hq) (DpAll.same s2 da) (fun n hn => ?_) (by show 5 < 6; decide) (by show 2 ≤ 10; decide) fun D H3 nD s3 hD => ?_
    · simp only [List.mem_cons, List.not_mem_nil, or_false] at hn
      rcases hn with rfl | rfl
      · exact ⟨⟨false, hw.1⟩, by omega, by omega⟩
      · exact ⟨⟨false, hw.2⟩, by omega, by omega⟩
    refine seq_asg ?_
    refine disp_run rfl .conj fun B bl H4 nB nbl s4 hB hbl hbb => ?_
    have s34 := s3.trans s4
    refine bar_run (ks := [c, e]) (bs := [["or"], ["and", "or"]]) (same_sqt (s2.trans s34) hq) (DpAll.same (s2.trans s34) da) (s4 _ _ hD) hB hbb hbl rfl (Ne.symm (ne_of_none hD nB)) (fun b hb => Ne.symm (ne_of_none hD (nbl b hb))) (fun n hn => ?_) (by show 2 ≤ 10; decide) fun x4' H5 b5 hD5 => ?_
    · simp only [List.mem_cons, List.not_mem_nil, or_false] at hn
      rcases hn with rfl | rfl
      · omega
      · omega
    have s5 : Same H H5 := fun b o h => b5 _ _ ((s2.trans s34) _ _ h) (ne_of_none h (none_of s2 nD))
    refine r_no rfl (by dsimp only [wd]; decide +kernel) ?_
    refine ⟨_, rfl, D, _, 0, .str (sS (bx (isOr c) (px c))), rfl, rfl, SqL.of hD5, ?_, ?_⟩
    · rw [← br_or]; exact atI_nat (j := 0) rfl
    refine k_lit (m := [32]) rfl (by decide +kernel) (by simp only [List.length_append, List.length_cons, List.length_nil]; omega) ?_
    refine ⟨_, rfl, ?_⟩
    refine k_cat (m := tl ("and" : Str)) rfl (sS_tl _).symm (by simp only [List.length_append, List.length_cons, List.length_nil]; omega) ?_
    refine k_lit (m := [32]) rfl (by decide +kernel) (by simp only [List.length_append, List.length_cons, List.length_nil]; omega) ?_
    refine ⟨_, rfl, D, _, 1, .str (sS (bx (isAO e) (px e))), rfl, rfl, SqL.of hD5, ?_, ?_⟩
    · rw [← br_ao]; exact atI_nat (j := 1) rfl
    refine k_cat (m := bx (isAO e) (px e)) rfl rfl (by simp only [List.length_append, List.length_cons, List.length_nil]; omega) ?_
    have q := k H5 s5
    rw [hpx] at q
    simpa using q
  | disj c e =>
    cases bb with
    | true => exact absurd hw id
    | false =>
    have hd' : max (depth c) (depth e) + 1 ≤ d + 1 := hd
    have hpx : px (.disj c e) = px c ++ 32 :: (tl ("or" : Str) ++ 32 :: bx (isOr e) (px e)) := rfl
    have ez : (tl ("or" : Str)).length = 2 := by decide +kernel
    have hl' := hl
    rw [hpx] at hl'
    simp only [List.length_append, List.length_cons, List.length_nil] at hl'
    have hb2 := bx_len (isOr e) (px e)
    refine r_no rfl (by dsimp only [wd]; decide +kernel) ?_
    refine r_no rfl (by dsimp only [wd]; decide +kernel) ?_
    refine r_no rfl (by dsimp only [wd]; decide +kernel) ?_
    refine r_inL ["next", "prev"] (by decide) rfl (fun c => absurd c (by dsimp only [wd]; decide +kernel)) (fun _ H1 s1 => ?_)
    refine r_no rfl (by dsimp only [wd]; decide +kernel) ?_
    refine r_inL ["later", "earlier", "if"] (by decide) rfl (fun c => absurd c (by dsimp only [wd]; decide +kernel)) (fun _ H2 s2 => ?_)
    have s2 := s1.trans s2
    refine r_no rfl (by dsimp only [wd]; decide +kernel) ?_
    refine r_no rfl (by dsimp only [wd]; decide +kernel) ?_
    refine r_no rfl (by dsimp only [wd]; decide +kernel) ?_
    refine r_no rfl (by dsimp only [wd]; decide +kernel) ?_
    dsimp only
    refine seq_asg ?_
    refine t_kids (j := 5) (ks := [c, e]) rfl (same_sqt s2 hq) (DpAll.same s2 da) (fun n hn => ?_) (by show 5 < 6; decide) (by show 2 ≤ 10; decide) fun D H3 nD s3 hD => ?_
    · simp only [List.mem_cons, List.not_mem_nil, or_false] at hn
      rcases hn with rfl | rfl
      · exact ⟨⟨false, hw.1⟩, by omega, by omega⟩
      · exact ⟨⟨false, hw.2⟩, by omega, by omega⟩
    refine seq_asg ?_
    refine disp_run rfl .disj fun B bl H4 nB nbl s4 hB hbl hbb => ?_
    have s34 := s3.trans s4
    refine bar_run (ks := [c, e]) (bs := [[], ["or"]]) (same_sqt (s2.trans s34) hq) (DpAll.same (s2.trans s34) da) (s4 _ _ hD) hB hbb hbl rfl (Ne.symm (ne_of_none hD nB)) (fun b hb => Ne.symm (ne_of_none hD (nbl b hb))) (fun n hn => ?_) (by show 2 ≤ 10; decide) fun x4' H5 b5 hD5 => ?_
    · simp only [List.mem_cons, List.not_mem_nil, or_false] at hn
      rcases hn with rfl | rfl
      · omega
      · omega
    have s5 : Same H H5 := fun b o h => b5 _ _ ((s2.trans s34) _ _ h) (ne_of_none h (none_of s2 nD))
    refine r_no rfl (by dsimp only [wd]; decide +kernel) ?_
    refine ⟨_, rfl, D, _, 0, .str (sS (px c)), rfl, rfl, SqL.of hD5, atI_nat (j := 0) rfl, ?_⟩
    refine k_lit (m := [32]) rfl (by decide +kernel) (by simp only [List.length_append, List.length_cons, List.length_nil]; omega) ?_
    refine ⟨_, rfl, ?_⟩
    refine k_cat (m := tl ("or" : Str)) rfl (sS_tl _).symm (by simp only [List.length_append, List.length_cons, List.length_nil]; omega) ?_
    refine k_lit (m := [32]) rfl (by decide +kernel) (by simp only [List.length_append, List.length_cons, List.length_nil]; omega) ?_
    refine ⟨_, rfl, D, _, 1, .str (sS (bx (isOr e) (px e))), rfl, rfl, SqL.of hD5, ?_, ?_⟩
    · rw [← br_or]; exact atI_nat (j := 1) rfl
    refine k_cat (m := bx (isOr e) (px e)) rfl rfl (by simp only [List.length_append, List.length_cons, List.length_nil]; omega) ?_
    have q := k H5 s5
    rw [hpx] at q
    simpa using q
theorem law_texts (T : Tp w K mg) : ∀ d : Nat, Cl P w K mg base (d + 1) "_law_text" P__law_text (spLt K d)
  | 0 => cl_of (k := 0) T.f__law_text T.g__law_text sc__law_text (fun _ F => b__law_text F) (fun vs H Q E h => by obtain ⟨v, n, b, rfl, _⟩ := h; rfl) (fun cdv A outer s H vs Q E hr h => by
      obtain ⟨v, n, b, _, _, _, hd, _⟩ := h
      have := depth_pos n
      omega)
  | d + 1 => ok__law_text T (law_texts T d)
end
end KT

namespace KT
open PySem PySem.Spec
open PyProof.Rows L2 KM
def spLk (K : PySem.W.Frag) : Sp := fun vs H Q _ => ∃ z : Str, vs = [.str z] ∧ z.length ≤ 1000000 ∧ ∀ p H', H p = none → Same H H' → H' p = some (.lst ((lk (tl z)).map V.str)) → Q (.ref p) H'
abbrev rSg : R2 := fun x y H Q => ∃ (c : Nat) (z : Str), x = .str ⟨#[c]⟩ ∧ y = .str z ∧ Q (.bl (decide (c ∈ z.cps.toList))) H
abbrev rLn : List V → Hp → VK → Prop := fun xs H Q => ∃ z, xs = [.str z] ∧ z.length ≤ sizeLine ∧ Q (.int z.length) H
/-- on and on while the signs are of S -/
def endW (S : Str) : TS := tWhile (tAnd (tTest (tOp (rI0 fun i j => .bl (decide (i < j))) (tVar 3) (tCB rLn (tCons (tVar 0) tNil)))) (tTest (tOp rSg (tOp rIxS (tVar 0) (tVar 3)) (tC (.str S)))))
  (tAsg (tOp (rI0 fun i j => .int (i + j)) (tVar 3) (tC (.int 1))) (gName 3))
theorem end_run {S : Str} {pp : Nat → Bool} (hS : ∀ c, decide (c ∈ tl S) = pp c) {z : Str} {n c : Nat} {r : List Nat} {l : Addr} {H : Hp} {D : Ends} (hz : z.length ≤ 1000000) (er : (tl z).drop n = c :: r)
    (k : D.nx [some (.str z), some (.ref l), some (.int (n : Int)), some (.int ((n + 1 + (r.takeWhile pp).length : Nat) : Int))] H) : endW S D [some (.str z), some (.ref l), some (.int (n : Int)), some (.int ((n + 1 : Nat) : Int))] H := by
  have el := len_tl z
  have hr1 := drop_next er
  have hn := drop_lt er
  refine ⟨fun m σ H' => ∃ e : Nat, σ = [some (.str z), some (.ref l), some (.int (n : Int)), some (.int (e : Int))] ∧ H' = H ∧ n + 1 ≤ e ∧ e ≤ (tl z).length ∧ (r.take (e - (n + 1))).all pp = true ∧ m = (tl z).length - e, ⟨_, n + 1, rfl, rfl, Nat.le_refl _, by omega, by rw [Nat.sub_self]; rfl, rfl⟩, ?_⟩
  rintro m σ H' ⟨e, rfl, rfl, h1, h2, h3, rfl⟩
  have fin : (∀ d q, (tl z).drop e = d :: q → pp d = false) → e = n + 1 + (r.takeWhile pp).length := fun hb => by
    have ez : (tl z).drop e = r.drop (e - (n + 1)) := by rw [← hr1, List.drop_drop]; congr 1; omega
    have es : r = r.take (e - (n + 1)) ++ (tl z).drop e := by rw [ez, List.take_append_drop]
    obtain ⟨t1, _⟩ := take_run (r := (tl z).drop e) h3 hb
    have hlen : (r.take (e - (n + 1))).length = e - (n + 1) := by
      rw [List.length_take, ← hr1, List.length_drop]; omega
    rw [es, t1, hlen]; omega
  refine ⟨_, rfl, _, rfl, _, rfl, sl6 hz, _, _, rfl, rfl, _, rfl, ?_⟩
  refine ite2 (fun c1 => ?_) (fun c1 => ?_)
  · have c1' : (e : Int) < (z.length : Int) := of_decide_eq_true c1
    obtain ⟨d, q, eq⟩ : ∃ d q, (tl z).drop e = d :: q := ⟨_, _, List.drop_eq_getElem_cons (by omega)⟩
    refine ⟨_, rfl, _, rfl, z, _, d, rfl, rfl, sl6 hz, atI_str eq, d, _, rfl, rfl, _, rfl, ?_⟩
    rw [show decide (d ∈ S.cps.toList) = pp d from hS d]
    refine ite2 (fun c2 => ?_) (fun c2 => ?_)
    · refine ⟨fun σ' H' => ∃ e' : Nat, e' = e + 1 ∧ σ' = [some (.str z), some (.ref l), some (.int (n : Int)), some (.int (e' : Int))] ∧ H' = _ ∧ (r.take (e' - (n + 1))).all pp = true, fun σ' H' ⟨e', he, hs, hh, ha⟩ => ⟨_, by omega, e', hs, hh, by omega, by omega, ha, rfl⟩, ?_⟩
      refine ⟨_, rfl, _, _, rfl, rfl, e + 1, rfl, ?_, rfl, ?_⟩
      · show ([some (.str z), some (.ref l), some (.int (n : Int)), some (.int ((e : Int) + 1))] : L2.St) = _
        rw [show ((e : Int) + 1) = ((e + 1 : Nat) : Int) by omega]
      · have ez : r.drop (e - (n + 1)) = d :: q := by rw [← hr1, List.drop_drop, ← eq]; congr 1; omega
        have e3 : e + 1 - (n + 1) = (e - (n + 1)) + 1 := by omega
        rw [e3, List.take_add_one, List.all_append, h3]
        have e4 : r[e - (n + 1)]? = some d := by
          have : (r.drop (e - (n + 1)))[0]? = some d := by rw [ez]; rfl
          rw [List.getElem?_drop] at this
          exact this
        rw [e4]
        show (true && ([d] : List Nat).all pp) = true
        simp [c2]
    · have e7 := fin fun d' q' e' => by
        rw [eq] at e'
        injection e' with e5 e6
        rw [← e5]; exact Bool.eq_false_iff.mpr c2
      rw [← e7] at k
      exact k
  · have c1' : ¬ (e : Int) < (z.length : Int) := of_decide_eq_false (Bool.eq_false_iff.mpr c1)
    have e7 := fin fun d' q' e' => absurd (drop_lt e') (by omega)
    rw [← e7] at k
    exact iteF k
def tokIf : TS := tIfS (tTest (tOp rSg (tOp rIxS (tVar 0) (tVar 2)) (tC (.str "abcdefghijklmnopqrstuvwxyz")))) (endW "abcdefghijklmnopqrstuvwxyz0123456789")
  (tIfS (tTest (tOp rSg (tOp rIxS (tVar 0) (tVar 2)) (tC (.str "0123456789")))) (endW "0123456789")
    (tIfS (tTest (tOp rEq (tSl rSlS (tVar 0) (tPart (tVar 2)) (tPart (tOp (rI0 fun i j => .int (i + j)) (tVar 2) (tC (.int 2))))) (tC (.str "<=")))) (tAsg (tOp (rI0 fun i j => .int (i + j)) (tVar 2) (tC (.int 2))) (gName 3)) tNext))
theorem tok_if {z : Str} {n c : Nat} {r : List Nat} {l : Addr} {H : Hp} {D : Ends} (hz : z.length ≤ 1000000) (er : (tl z).drop n = c :: r)
    (k : ∀ e : Nat, n < e → e ≤ (tl z).length → (c ≠ 32 → lk (c :: r) = ⟨((c :: r).take (e - n)).toArray⟩ :: lk ((tl z).drop e)) → (c = 32 → lk (c :: r) = lk ((tl z).drop e)) → D.nx [some (.str z), some (.ref l), some (.int (n : Int)), some (.int (e : Int))] H) :
    tokIf D [some (.str z), some (.ref l), some (.int (n : Int)), some (.int ((n + 1 : Nat) : Int))] H := by
  have el := len_tl z
  have hr1 := drop_next er
  have hn := drop_lt er
  have hlen : r.length + n + 1 = (tl z).length := by
    have := congrArg List.length er
    rw [List.length_drop, List.length_cons] at this
    omega
  have ea := atI_str er
  refine ⟨_, rfl, _, rfl, z, _, c, rfl, rfl, sl6 hz, ea, c, _, rfl, rfl, _, rfl, ?_⟩
  rw [mem_SMALL c]
  refine ite2 (fun c1 => ?_) (fun c1 => ?_)
  · have hw : (r.takeWhile al).length ≤ r.length := (List.takeWhile_prefix al).length_le
    refine end_run mem_REST hz er (k _ (by omega) (by omega) (fun _ => ?_) (fun e => ?_))
    · have h3 : (tl z).drop (n + 1 + (r.takeWhile al).length) = r.dropWhile al := by rw [← List.drop_drop, hr1, drop_take]
      rw [lk_cons, if_pos c1, h3, show n + 1 + (r.takeWhile al).length - n = (r.takeWhile al).length + 1 by omega, List.take_succ_cons, take_take]
    · subst e; exact absurd c1 (by decide)
  refine ⟨_, rfl, _, rfl, z, _, c, rfl, rfl, sl6 hz, ea, c, _, rfl, rfl, _, rfl, ?_⟩
  rw [mem_DIGITS c]
  refine ite2 (fun c2 => ?_) (fun c2 => ?_)
  · have hw : (r.takeWhile dg).length ≤ r.length := (List.takeWhile_prefix dg).length_le
    refine end_run mem_DIGITS hz er (k _ (by omega) (by omega) (fun _ => ?_) (fun e => ?_))
    · have h3 : (tl z).drop (n + 1 + (r.takeWhile dg).length) = r.dropWhile dg := by rw [← List.drop_drop, hr1, drop_take]
      rw [lk_cons, if_neg c1, if_pos c2, h3, show n + 1 + (r.takeWhile dg).length - n = (r.takeWhile dg).length + 1 by omega, List.take_succ_cons, take_take]
    · subst e; exact absurd c2 (by decide)
  refine ⟨_, rfl, _, rfl, _, rfl, _, rfl, _, _, rfl, rfl, _, rfl, z, rfl, sl6 hz, rfl, ?_⟩
  refine ⟨_, rfl, ?_⟩
  rw [cut2 er]
  refine ite2 (fun c3 => ?_) (fun c3 => ?_)
  · have c3' : c = 60 ∧ r.head? = some 61 := of_decide_eq_true c3
    obtain ⟨q, eq⟩ : ∃ q, r = 61 :: q := by
      cases r with
      | nil => exact absurd c3'.2 (by simp)
      | cons d q => exact ⟨q, by have := c3'.2; simp at this; rw [this]⟩
    have hlq : q.length + 1 = r.length := by rw [eq]; rfl
    refine ⟨_, rfl, _, _, rfl, rfl, ?_⟩
    have h3 : (tl z).drop (n + 2) = q := drop_next (hr1.trans eq)
    have kk := k (n + 2) (by omega) (by omega) (fun _ => by
      rw [lk_cons, if_neg c1, if_neg c2, if_pos c3', h3, show n + 2 - n = 2 by omega, eq, c3'.1]; rfl) (fun e => by rw [e] at c3'; exact absurd c3'.1 (by decide))
    have en : (((n + 2 : Nat) : Int)) = (n : Int) + 2 := by omega
    rw [en] at kk
    exact kk
  · have c3' : ¬ (c = 60 ∧ r.head? = some 61) := of_decide_eq_false (Bool.eq_false_iff.mpr c3)
    refine k (n + 1) (by omega) (by omega) (fun e => ?_) (fun e => ?_)
    · rw [lk_cons, if_neg c1, if_neg c2, if_neg c3', if_neg e, hr1, show n + 1 - n = 1 by omega]; rfl
    · rw [lk_cons, if_neg c1, if_neg c2, if_neg c3', if_pos e, hr1]
section
variable {P : Program} {w : World} {K : PySem.W.Frag} {mg : Str → Option Value} {base : Heap}
theorem ok__law_tokens (T : Tp w K mg) : Cl P w K mg base 1 "_law_tokens" P__law_tokens (spLk K) := by
  refine cl_of T.f__law_tokens T.g__law_tokens sc__law_tokens (fun _ F => b__law_tokens F) (fun vs H Q E h => ?_) (fun cdv A outer s H vs Q E hr h => ?_)
  · obtain ⟨z, rfl, _⟩ := h
    rfl
  obtain ⟨z, rfl, hl, k⟩ := h
  refine ⟨_, (pss_cons (ps_set (i := 1) sc__law_tokens.nd rfl (Or.inl rfl) (pe_lst pa_nil))
      (pss_cons (ps_set (i := 2) sc__law_tokens.nd rfl (Or.inl rfl) pe_int)
      (pss_cons (ps_while pOwn (pt_cmpR op_lt (pv 2) (pe_callB call_len_str rfl T.z_len PySem.boot_len (pa_cons (pv 0) pa_nil)) (nomark _)) (pss_cons (ps_set (i := 3) sc__law_tokens.nd rfl (Or.inl rfl) (pe_op op_add (pv 2) pe_int))
      (pss_cons (ps_if (pt_cmpR op_in_sign (pe_ix ix_str (pv 0) (pv 2) (fun _ _ => rfl)) pe_str (by rfl)) (pss_one (ps_while pOwn (PW.pt (pw_and (pt_cmpR op_lt (pv 3) (pe_callB call_len_str rfl T.z_len PySem.boot_len (pa_cons (pv 0) pa_nil)) (nomark _)) (pw_and1 (pt_cmpR op_in_sign (pe_ix ix_str (pv 0) (pv 3) (fun _ _ => rfl)) pe_str (by rfl))))) (pss_one (ps_set (i := 3) sc__law_tokens.nd rfl (Or.inl rfl) (pe_op op_add (pv 3) pe_int))))) (pss_one (ps_if (pt_cmpR op_in_sign (pe_ix ix_str (pv 0) (pv 2) (fun _ _ => rfl)) pe_str (by rfl)) (pss_one (ps_while pOwn (PW.pt (pw_and (pt_cmpR op_lt (pv 3) (pe_callB call_len_str rfl T.z_len PySem.boot_len (pa_cons (pv 0) pa_nil)) (nomark _)) (pw_and1 (pt_cmpR op_in_sign (pe_ix ix_str (pv 0) (pv 3) (fun _ _ => rfl)) pe_str (by rfl))))) (pss_one (ps_set (i := 3) sc__law_tokens.nd rfl (Or.inl rfl) (pe_op op_add (pv 3) pe_int))))) (pss_one (ps_if (pt_cmpR op_eq (pe_slice sl_str (pv 0) (po_some (pv 2)) (po_some (pe_op op_add (pv 2) pe_int))) pe_str (nomark _)) (pss_one (ps_set (i := 3) sc__law_tokens.nd rfl (Or.inl rfl) (pe_op op_add (pv 2) pe_int))) pss_nil)))))
      (pss_cons (ps_if (pt_cmpR op_ne (pe_ix ix_str (pv 0) (pv 2) (fun _ _ => rfl)) pe_str (nomark _)) (pss_one (ps_expr (pe_bm PySem.F.plainAttrs_list PySem.F.slot_list_append PySem.F.type_list_append mt_append (pv 1) (pa_cons (pe_slice sl_str (pv 0) (po_some (pv 2)) (po_some (pv 3))) pa_nil)))) pss_nil)
      (pss_one (ps_set (i := 2) sc__law_tokens.nd rfl (Or.inl rfl) (pv 3)))))))
      (pss_one (ps_ret (pv 1)))))), ?_⟩
  have hz := sl6 hl
  have el := len_tl z
  refine ⟨by show 0 ≤ sizeLine; decide, fun l hlN => ?_⟩
  refine ⟨fun m σ H' => ∃ (n : Nat) (done : List Str) (x : Option V), σ = [some (.str z), some (.ref l), some (.int (n : Int)), x] ∧ Same H H' ∧ H' l = some (.lst (done.map V.str)) ∧ n ≤ (tl z).length ∧ done.length ≤ n ∧
    lk (tl z) = done ++ lk ((tl z).drop n) ∧ m = (tl z).length - n, ⟨_, 0, [], none, rfl, same_upd hlN, upd_same, Nat.zero_le _, Nat.le_refl _, by simp, rfl⟩, ?_⟩
  rintro m σ H' ⟨n, done, x, rfl, hs, hd, h1, h2, ht, rfl⟩
  refine ⟨_, rfl, _, rfl, _, rfl, hz, _, _, rfl, rfl, _, rfl, ?_⟩
  refine ite2 (fun c1 => ?_) (fun c1 => ?_)
  · have c1' : (n : Int) < (z.length : Int) := of_decide_eq_true c1
    obtain ⟨c, r, er⟩ : ∃ c r, (tl z).drop n = c :: r := ⟨_, _, List.drop_eq_getElem_cons (by omega)⟩
    have hr1 := drop_next er
    rw [er] at ht
    refine ⟨_, fun σ' H' z => z, ?_⟩
    refine ⟨_, rfl, _, _, rfl, rfl, ?_⟩
    have en1 : (n : Int) + 1 = ((n + 1 : Nat) : Int) := by omega
    show tSeq tokIf _ _ [some (.str z), some (.ref l), some (.int (n : Int)), some (.int ((n : Int) + 1))] H'
    rw [en1]
    refine tok_if hl er fun e g1 g2 g3 g4 => ?_
    have es : (V.str ⟨#[c]⟩ = V.str " ") ↔ c = 32 := by
      have e0 : (" " : Str) = ⟨#[32]⟩ := by decide +kernel
      rw [e0]
      constructor
      · intro e
        have := V.str.inj e
        injection this with e1
        have := congrArg Array.toList e1
        simpa using this
      · intro e; rw [e]
    refine ⟨_, rfl, _, rfl, z, _, c, rfl, rfl, hz, atI_str er, rfl, _, rfl, ?_⟩
    refine ite2 (fun c2 => ?_) (fun c2 => ?_)
    · have c2' : c ≠ 32 := fun e => by
        rw [show decide (V.str ⟨#[c]⟩ = V.str " ") = true from decide_eq_true (es.mpr e)] at c2
        exact absurd c2 (by decide)
      refine ⟨_, rfl, .inl ⟨rfl, _, SqL.of hd⟩, _, rfl, _, rfl, _, rfl, _, rfl, _, rfl, z, rfl, hz, l, _, _, rfl, rfl, hd, ?_, ?_⟩
      · rw [List.length_map]
        exact Nat.lt_of_le_of_lt (show done.length ≤ 1000000 by omega) (by decide)
      refine ⟨_, rfl, _, ?_, e, done ++ [cutS z (some ((n : Nat) : Int)) (some ((e : Nat) : Int))], _, rfl, fun b o q => ?_, ?_, g2, ?_, ?_, rfl⟩
      · omega
      · rw [upd_ne (ne_of_none q hlN)]; exact hs b o q
      · rw [upd_same, List.map_append]; rfl
      · rw [List.length_append, List.length_singleton]; omega
      · rw [ht, g3 c2', cut_n (by omega) g2, er, List.append_assoc]; rfl
    · have c2' : c = 32 := by
        cases e : decide (V.str ⟨#[c]⟩ = V.str " ") with
        | true => exact es.mp (of_decide_eq_true e)
        | false => rw [e] at c2; exact absurd rfl c2
      exact ⟨_, rfl, _, by omega, e, done, _, rfl, hs, hd, g2, by omega, by rw [ht, g4 c2'], rfl⟩
  · have c1' : ¬ (n : Int) < (z.length : Int) := of_decide_eq_false (Bool.eq_false_iff.mpr c1)
    have e0 : (tl z).drop n = [] := List.drop_eq_nil_of_le (by omega)
    rw [e0] at ht
    refine ⟨_, rfl, k l H' hlN hs ?_⟩
    rw [ht, show lk [] = [] from rfl, List.append_nil]
    exact hd
end
end KT

namespace KT
open PySem PySem.Spec
open PyProof.Rows L2 KM
/-- a token as the law's cutter gives it -/
structure Gt (t : Str) : Prop where
  ne : tl t ≠ []
  word : ∀ c, (tl t).head? = some c → sm c = true → (tl t).all al = true
  num : ∀ c, (tl t).head? = some c → dg c = true → (tl t).all dg = true
structure Rw (H : Hp) (a : Addr) (row : List Str) : Prop where
  at_ : H a = some (.lst (row.map V.str))
  good : ∀ t ∈ row, Gt t
  len : row.length ≤ 1000000
  lens : ∀ t ∈ row, t.length ≤ 1000000
theorem Rw.same {H H' : Hp} {a : Addr} {row : List Str} (g : Rw H a row) (e : Same H H') : Rw H' a row := ⟨e _ _ g.at_, g.good, g.len, g.lens⟩
def spWord : Sp := fun vs H Q _ => ∃ z : Str, vs = [.str z] ∧ ∀ H', Same H H' → Q (.bl (words.contains z)) H'
def spNm : Sp := fun vs H Q _ => ∃ z : Str, vs = [.str z] ∧ Gt z ∧ z.length ≤ 1000000 ∧ ∀ H', Same H H' → Q (.bl (isName z)) H'
def spIs : Sp := fun vs H Q _ => ∃ (a : Addr) (row : List Str) (i : Int) (w : Str), vs = [.ref a, .int i, .str w] ∧ Rw H a row ∧ ((i = -1 ∧ Q (.bl false) H) ∨ ∃ n : Nat, i = n ∧ Q (.bl (decide (row[n]? = some w))) H)
/-- where the walk stands: after ts are left, or nowhere -/
def End (row : List Str) (H : Hp) (Q : VK) (x : Option (List Str)) : Prop := (x = none → ∀ H', Same H H' → Q (.int (-1)) H') ∧ ∀ (m : Nat), m ≤ row.length → x = some (row.drop m) → ∀ H', Same H H' → Q (.int (m : Int)) H'
def namL (ts : List Str) : Option (List Str) := match ts with
  | s :: r => if isName s = true then some r else none
  | [] => none
def spNamed : Sp := fun vs H Q _ => ∃ (a : Addr) (row : List Str) (n : Nat), vs = [.ref a, .int (n : Int)] ∧ Rw H a row ∧ n ≤ row.length ∧ End row H Q (namL (row.drop n))
def digL (most : Nat) (ts : List Str) : Option (List Str) := match ts with
  | s :: r => (match digOk s with
    | some v => if v ≤ most then some r else none
    | none => none)
  | [] => none
def numL (sg : Bool) (most : Nat) (ts : List Str) : Option (List Str) := if sg = true ∧ ts.head? = some ("-" : Str) then digL most ts.tail else digL most ts
def spNum : Sp := fun vs H Q _ => ∃ (a : Addr) (row : List Str) (n : Nat) (sg : Bool) (most : Nat), vs = [.ref a, .int (n : Int), .bl sg, .int (most : Int)] ∧ Rw H a row ∧ n ≤ row.length ∧ most ≤ 1000000 ∧ End row H Q (numL sg most (row.drop n))
theorem split_words : Txt.split ("next prev open later earlier if is not and or yes calendar run within known to closed assume claim event rule on when due met called missed filed" : Str) " " = words := by decide +kernel
theorem r_row {K : PySem.W.Frag} {H : Hp} {σ : L2.St} {Q : VK} {a : Addr} {row : List Str} {n j : Nat} {s : Str} (h0 : σ[0]? = some (some (.ref a))) (hj : σ[j]? = some (some (.int (n : Int)))) (g : Rw H a row) (hs : row[n]? = some s) (k : Q (.str s) H) :
    tOp (rIxL K) (tVar 0) (tVar j) σ H Q := ⟨_, h0, _, hj, a, _, n, .str s, rfl, rfl, SqL.of g.at_, atI_nat (by rw [List.getElem?_map, hs]; rfl), k⟩
theorem drop_head {row : List Str} {n : Nat} {s : Str} {r : List Str} (h : row.drop n = s :: r) : row[n]? = some s ∧ row.drop (n + 1) = r ∧ n < row.length := by
  have hn : n < row.length := by
    have := congrArg List.length h
    rw [List.length_drop, List.length_cons] at this
    omega
  have e : (row.drop n)[0]? = some s := by rw [h]; rfl
  rw [List.getElem?_drop] at e
  exact ⟨e, by rw [← List.drop_drop, h]; rfl, hn⟩
theorem drop_cons {row : List Str} {n : Nat} (h : n < row.length) : ∃ s r, row.drop n = s :: r ∧ row[n]? = some s ∧ row.drop (n + 1) = r := by
  have e : row.drop n = row[n] :: row.drop (n + 1) := List.drop_eq_getElem_cons h
  exact ⟨_, _, e, (drop_head e).1, rfl⟩
section
variable {P : Program} {w : World} {K : PySem.W.Frag} {mg : Str → Option Value} {base : Heap}
theorem ok__law_word (T : Tp w K mg) : Cl P w K mg base 1 "_law_word" P__law_word spWord := by
  refine cl_of T.f__law_word T.g__law_word sc__law_word (fun _ F => b__law_word F) (fun vs H Q E h => ?_) (fun cdv A outer s H vs Q E hr h => ?_)
  · obtain ⟨z, rfl, _⟩ := h
    rfl
  obtain ⟨z, rfl, k⟩ := h
  refine ⟨_, (pss_cons (ps_set (i := 1) sc__law_word.nd rfl (Or.inl rfl) pe_str)
      (pss_one (ps_ret (pe_cmpR op_in_seq (pv 0) (pe_split (pv 1) pe_str) (by rfl))))), ?_⟩
  refine ⟨_, rfl, _, rfl, ⟨_, rfl⟩, _, _, rfl, rfl, by decide +kernel, by decide +kernel, fun p np => ?_⟩
  rw [split_words]
  refine ⟨p, _, rfl, seq_lst upd_same, rfl, flat_strs words, ?_⟩
  have e : inV (.str z) (words.map V.str) = words.contains z := inV_str
  show Q (.bl (inV (.str z) (words.map V.str))) _
  rw [e]
  exact k _ (same_upd np)
theorem nm_eq {z : Str} (g : Gt z) {c : Nat} {r : List Nat} (e : tl z = c :: r) : isName z = (decide (1 ≤ (tl z).length) && (decide ((tl z).length ≤ 20) && (sm c && !(words.contains z)))) := by
  unfold isName
  rw [e]
  cases h1 : sm c with
  | false => simp [h1]
  | true =>
    have := g.word c (by rw [e]; rfl) h1
    rw [e] at this
    rw [this]
    cases words.contains z <;> simp [h1]
theorem ok__law_is_name (T : Tp w K mg) : Cl P w K mg base 2 "_law_is_name" P__law_is_name spNm := by
  have G__law_word := ok__law_word (P := P) (base := base) T
  refine cl_of T.f__law_is_name T.g__law_is_name sc__law_is_name (fun _ F => b__law_is_name F) (fun vs H Q E h => ?_) (fun cdv A outer s H vs Q E hr h => ?_)
  · obtain ⟨z, rfl, _⟩ := h
    rfl
  obtain ⟨z, rfl, g, hl, k⟩ := h
  refine ⟨_, (pss_one (ps_ret (pe_and (pe_chain op_le op_le pe_int (pe_callB call_len_str rfl T.z_len PySem.boot_len (pa_cons (pv 0) pa_nil)) pe_int) (pe_and (pe_cmpR op_in_sign (pe_ix ix_str (pv 0) pe_int (fun _ _ => rfl)) pe_str (by rfl)) (pe_one (pe_not (pe_cl G__law_word hr (by omega) pasE (pa_cons (pv 0) pa_nil)))))))), ?_⟩
  have hz := sl6 hl
  have el := len_tl z
  obtain ⟨c, r, ez⟩ : ∃ c r, tl z = c :: r := by
    cases e : tl z with
    | nil => exact absurd e g.ne
    | cons c r => exact ⟨c, r, rfl⟩
  have hn := nm_eq g ez
  have hl1 : 1 ≤ (tl z).length := by rw [ez, List.length_cons]; omega
  have ea : atI z.cps.toList (0 : Int) = some c := by
    have : atI (tl z) ((0 : Nat) : Int) = some c := atI_nat (by rw [ez]; rfl)
    exact this
  rw [decide_eq_true hl1, Bool.true_and] at hn
  refine ⟨_, rfl, _, rfl, hz, _, _, rfl, rfl, _, rfl, ?_⟩
  refine ite2 (fun c1 => ?_) (fun c1 => ?_)
  · refine ⟨_, _, rfl, rfl, _, rfl, ?_⟩
    refine ite2 (fun c2 => ?_) (fun c2 => ?_)
    · have c2' : (z.length : Int) ≤ 20 := of_decide_eq_true c2
      rw [decide_eq_true (by omega), Bool.true_and] at hn
      refine ⟨_, rfl, z, 0, c, rfl, rfl, hz, ea, c, _, rfl, rfl, _, rfl, ?_⟩
      rw [mem_SMALL c]
      refine ite2 (fun c3 => ?_) (fun c3 => ?_)
      · rw [c3, Bool.true_and] at hn
        refine ⟨_, rfl, z, rfl, fun H' s' => ⟨_, rfl, ?_⟩⟩
        rw [← hn]
        exact k H' s'
      · rw [Bool.eq_false_iff.mpr c3, Bool.false_and] at hn
        have q := k H (Same.refl H)
        rw [hn] at q
        exact q
    · have c2' : ¬ (z.length : Int) ≤ 20 := of_decide_eq_false (Bool.eq_false_iff.mpr c2)
      rw [decide_eq_false (by omega), Bool.false_and] at hn
      have q := k H (Same.refl H)
      rw [hn] at q
      exact q
  · have c1' : ¬ (1 : Int) ≤ (z.length : Int) := of_decide_eq_false (Bool.eq_false_iff.mpr c1)
    omega
theorem ok__law_is (T : Tp w K mg) : Cl P w K mg base 1 "_law_is" P__law_is spIs := by
  refine cl_of T.f__law_is T.g__law_is sc__law_is (fun _ F => b__law_is F) (fun vs H Q E h => ?_) (fun cdv A outer s H vs Q E hr h => ?_)
  · obtain ⟨a, row, i, w, rfl, _⟩ := h
    rfl
  obtain ⟨a, row, i, x, rfl, g, k⟩ := h
  refine ⟨_, (pss_one (ps_ret (pe_and (pe_chain op_le op_lt pe_int (pv 1) (pe_callB call_len_seq rfl T.z_len PySem.boot_len (pa_cons (pv 0) pa_nil))) (pe_one (pe_cmpR op_eq (pe_ix ix_list (pv 0) (pv 1) (fun _ _ => rfl)) (pv 2) (nomark _)))))), ?_⟩
  refine ⟨_, rfl, _, _, rfl, rfl, _, rfl, ?_⟩
  rcases k with ⟨rfl, k⟩ | ⟨n, rfl, k⟩
  · exact iteF ⟨_, rfl, iteF k⟩
  · have c0 : (0 : Int) ≤ (n : Int) := by omega
    rw [decide_eq_true c0]
    refine iteT ⟨_, rfl, a, _, rfl, .inl (SqL.of g.at_), _, _, rfl, rfl, _, rfl, ?_⟩
    rw [List.length_map]
    refine ite2 (fun c => ?_) (fun c => ?_)
    · have c' : (n : Int) < (row.length : Int) := of_decide_eq_true c
      obtain ⟨s, r, e, es, _⟩ := drop_cons (row := row) (n := n) (by omega)
      refine r_row rfl rfl g es ⟨_, rfl, rfl, ?_⟩
      rw [es] at k
      have : decide (V.str s = V.str x) = decide (some s = some x) := decide_eq_decide.mpr ⟨fun e => congrArg some (V.str.inj e), fun e => congrArg V.str (Option.some.inj e)⟩
      rw [this]; exact k
    · have c' : ¬ (n : Int) < (row.length : Int) := of_decide_eq_false (Bool.eq_false_iff.mpr c)
      rw [List.getElem?_eq_none (by omega), decide_eq_false (by simp)] at k
      exact k
theorem ok__law_named (T : Tp w K mg) : Cl P w K mg base 3 "_law_named" P__law_named spNamed := by
  have G__law_is_name := ok__law_is_name (P := P) (base := base) T
  refine cl_of T.f__law_named T.g__law_named sc__law_named (fun _ F => b__law_named F) (fun vs H Q E h => ?_) (fun cdv A outer s H vs Q E hr h => ?_)
  · obtain ⟨a, row, n, rfl, _⟩ := h
    rfl
  obtain ⟨a, row, n, rfl, g, hn, k1, k2⟩ := h
  refine ⟨_, (pss_cons (ps_if (PW.pt (pw_and (pt_chain op_le op_lt pe_int (pv 1) (pe_callB call_len_seq rfl T.z_len PySem.boot_len (pa_cons (pv 0) pa_nil))) (pw_and1 (pt_val (pe_cl G__law_is_name hr (by omega) pasE (pa_cons (pe_ix ix_list (pv 0) (pv 1) (fun _ _ => rfl)) pa_nil)))))) (pss_one (ps_ret (pe_op op_add (pv 1) pe_int))) pss_nil)
      (pss_one (ps_ret (pe_un un_neg pe_int)))), ?_⟩
  refine ⟨_, rfl, _, _, rfl, rfl, _, rfl, ?_⟩
  have c0 : (0 : Int) ≤ (n : Int) := by omega
  rw [decide_eq_true c0]
  refine iteT ⟨_, rfl, a, _, rfl, .inl (SqL.of g.at_), _, _, rfl, rfl, _, rfl, ?_⟩
  rw [List.length_map]
  refine ite2 (fun c => ?_) (fun c => ?_)
  · have c' : (n : Int) < (row.length : Int) := of_decide_eq_true c
    obtain ⟨s, r, e, es, er⟩ := drop_cons (row := row) (n := n) (by omega)
    have hm : s ∈ row := List.mem_of_getElem? es
    refine r_row rfl rfl g es ⟨s, rfl, g.good s hm, g.lens s hm, fun H' s' => ⟨_, rfl, ?_⟩⟩
    rw [e] at k1 k2
    refine ite2 (fun c2 => ?_) (fun c2 => ?_)
    · refine ⟨_, rfl, _, _, rfl, rfl, ?_⟩
      have q := k2 (n + 1) (by omega) (by rw [er]; exact if_pos c2) H' s'
      have en : (((n + 1 : Nat) : Int)) = (n : Int) + 1 := by omega
      rw [en] at q
      exact q
    · exact ⟨_, rfl, k1 (if_neg c2) H' s'⟩
  · have c' : ¬ (n : Int) < (row.length : Int) := of_decide_eq_false (Bool.eq_false_iff.mpr c)
    have e0 : row.drop n = [] := List.drop_eq_nil_of_le (by omega)
    rw [e0] at k1
    exact iteF ⟨_, rfl, k1 rfl H (Same.refl H)⟩
theorem head_at {z : Str} {c : Nat} {r : List Nat} (e : tl z = c :: r) : atI z.cps.toList (0 : Int) = some c := by
  have : atI (tl z) ((0 : Nat) : Int) = some c := atI_nat (by rw [e]; rfl)
  exact this
theorem dig_of {z : Str} (g : Gt z) {c : Nat} {r : List Nat} (e : tl z = c :: r) : (dg c = false ∨ 7 < (tl z).length ∨ (2 ≤ (tl z).length ∧ c = 48) → digOk z = none) ∧
    (dg c = true → (tl z).length ≤ 7 → ¬ (2 ≤ (tl z).length ∧ c = 48) → (tl z).all dg = true ∧ digOk z = if dval (tl z) ≤ 1000000 then some (dval (tl z)) else none) := by
  have h1 : 1 ≤ (tl z).length := by rw [e, List.length_cons]; omega
  have hh : (tl z).head? = some c := by rw [e]; rfl
  constructor
  · intro h
    unfold digOk
    rw [if_neg]
    intro k
    simp only [Bool.and_eq_true, decide_eq_true_eq, Bool.not_eq_true', Bool.and_eq_false_iff, decide_eq_false_iff_not] at k
    obtain ⟨_, k2, k3, k4, _⟩ := k
    rcases h with h | h | h
    · rw [e, List.all_cons, h] at k3; cases k3
    · omega
    · rcases k4 with k4 | k4
      · omega
      · exact k4 (by rw [hh, h.2])
  · intro a b k
    have ha := g.num c hh a
    refine ⟨ha, ?_⟩
    unfold digOk
    rw [decide_eq_true h1, decide_eq_true b, ha, Bool.true_and, Bool.true_and, Bool.true_and]
    have : (decide (2 ≤ (tl z).length) && decide ((tl z).head? = some 48)) = false := by
      rw [hh]
      by_cases x : 2 ≤ (tl z).length
      · have : c ≠ 48 := fun y => k ⟨x, y⟩
        rw [decide_eq_false (p := some c = some 48) (by simpa using this), Bool.and_false]
      · rw [decide_eq_false x, Bool.false_and]
    rw [this, Bool.not_false, Bool.true_and]
    by_cases x : dval (tl z) ≤ 1000000
    · rw [decide_eq_true x, if_pos rfl, if_pos x]
    · rw [decide_eq_false x, if_neg (by decide), if_neg x]
theorem r_len {K : PySem.W.Frag} {H : Hp} {σ : L2.St} {Q : VK} {a : Addr} {row : List Str} (h0 : σ[0]? = some (some (.ref a))) (g : Rw H a row) (k : Q (.int (row.length : Int)) H) :
    tCB (fun xs H Q => ∃ p ys, xs = [.ref p] ∧ (SqL K H p ys ∨ SqT K H p ys) ∧ Q (.int ys.length) H) (tCons (tVar 0) tNil) σ H Q := ⟨_, h0, a, _, rfl, .inl (SqL.of g.at_), by rw [List.length_map]; exact k⟩
def minusIf (K : PySem.W.Frag) : TS := tIfS (tAnd (tB (tVar 2)) (tAnd (tTest (tOp (rI0 fun i j => .bl (decide (i < j))) (tVar 4) (tCB (fun xs H Q => ∃ p ys, xs = [.ref p] ∧ (SqL K H p ys ∨ SqT K H p ys) ∧ Q (.int ys.length) H) (tCons (tVar 0) tNil)))) (tTest (tOp rEq (tOp (rIxL K) (tVar 0) (tVar 4)) (tC (.str "-"))))))
  (tAsg (tOp (rI0 fun i j => .int (i + j)) (tVar 4) (tC (.int 1))) (gName 4)) tNext
theorem minus_if {H : Hp} {D : Ends} {a : Addr} {row : List Str} {n most : Nat} {sg : Bool} (g : Rw H a row) (hn : n ≤ row.length) (k : ∀ e : Nat, e ≤ row.length → numL sg most (row.drop n) = digL most (row.drop e) → D.nx [some (.ref a), some (.int (n : Int)), some (.bl sg), some (.int (most : Int)), some (.int (e : Int))] H) :
    minusIf K D [some (.ref a), some (.int (n : Int)), some (.bl sg), some (.int (most : Int)), some (.int (n : Int))] H := by
  refine ⟨_, rfl, ?_⟩
  have same : ¬ (sg = true ∧ (row.drop n).head? = some ("-" : Str)) → D.nx [some (.ref a), some (.int (n : Int)), some (.bl sg), some (.int (most : Int)), some (.int (n : Int))] H := fun c => k n hn (if_neg c)
  refine ⟨sg, rfl, ?_⟩
  refine ite2 (fun c0 => ?_) (fun c0 => iteF (same fun h => c0 h.1))
  refine ⟨_, rfl, r_len (K := K) rfl g ⟨_, _, rfl, rfl, _, rfl, ?_⟩⟩
  refine ite2 (fun c => ?_) (fun c => iteF (same fun h => ?_))
  · have c' : (n : Int) < (row.length : Int) := of_decide_eq_true c
    obtain ⟨s, r, e, es, er⟩ := drop_cons (row := row) (n := n) (by omega)
    refine r_row rfl rfl g es ⟨rfl, _, rfl, ?_⟩
    refine ite2 (fun c2 => ?_) (fun c2 => same fun h => ?_)
    · have c2' : s = "-" := V.str.inj (of_decide_eq_true c2)
      refine ⟨_, rfl, _, _, rfl, rfl, ?_⟩
      have q := k (n + 1) (by omega) (by rw [er, e]; exact if_pos ⟨c0, by rw [c2']; rfl⟩)
      have en : (((n + 1 : Nat) : Int)) = (n : Int) + 1 := by omega
      rw [en] at q
      exact q
    · rw [e] at h
      exact c2 (decide_eq_true (congrArg V.str (Option.some.inj h.2)))
  · have c' : ¬ (n : Int) < (row.length : Int) := of_decide_eq_false (Bool.eq_false_iff.mpr c)
    rw [List.drop_eq_nil_of_le (by omega)] at h
    cases h.2
theorem ok__law_number (T : Tp w K mg) : Cl P w K mg base 1 "_law_number" P__law_number spNum := by
  refine cl_of T.f__law_number T.g__law_number sc__law_number (fun _ F => b__law_number F) (fun vs H Q E h => ?_) (fun cdv A outer s H vs Q E hr h => ?_)
  · obtain ⟨a, row, n, sg, most, rfl, _⟩ := h
    rfl
  obtain ⟨a, row, n, sg, most, rfl, g, hn, hm, k1, k2⟩ := h
  refine ⟨_, (pss_cons (ps_set (i := 4) sc__law_number.nd rfl (Or.inl rfl) (pv 1))
      (pss_cons (ps_if (PW.pt (pw_and (pt_val (pv 2)) (pw_and (pt_cmpR op_lt (pv 4) (pe_callB call_len_seq rfl T.z_len PySem.boot_len (pa_cons (pv 0) pa_nil)) (nomark _)) (pw_and1 (pt_cmpR op_eq (pe_ix ix_list (pv 0) (pv 4) (fun _ _ => rfl)) pe_str (nomark _)))))) (pss_one (ps_set (i := 4) sc__law_number.nd rfl (Or.inl rfl) (pe_op op_add (pv 4) pe_int))) pss_nil)
      (pss_cons (ps_if (PW.pt (pw_or (pt_cmpR op_ge (pv 4) (pe_callB call_len_seq rfl T.z_len PySem.boot_len (pa_cons (pv 0) pa_nil)) (nomark _)) (pw_or (pt_cmpR op_notIn_sign (pe_ix ix_str (pe_ix ix_list (pv 0) (pv 4) (fun _ _ => rfl)) pe_int (fun _ _ => rfl)) pe_str (by rfl)) (pw_or1 (pt_cmpR op_gt (pe_callB call_len_str rfl T.z_len PySem.boot_len (pa_cons (pe_ix ix_list (pv 0) (pv 4) (fun _ _ => rfl)) pa_nil)) pe_int (nomark _)))))) (pss_one (ps_ret (pe_un un_neg pe_int))) pss_nil)
      (pss_cons (ps_if (PW.pt (pw_or (PW.pt (pw_and (pt_cmpR op_gt (pe_callB call_len_str rfl T.z_len PySem.boot_len (pa_cons (pe_ix ix_list (pv 0) (pv 4) (fun _ _ => rfl)) pa_nil)) pe_int (nomark _)) (pw_and1 (pt_cmpR op_eq (pe_ix ix_str (pe_ix ix_list (pv 0) (pv 4) (fun _ _ => rfl)) pe_int (fun _ _ => rfl)) pe_str (nomark _))))) (pw_or1 (pt_cmpR op_gt (pe_callTy call_int_str rfl T.z_int (by decide +kernel) (pa_cons (pe_ix ix_list (pv 0) (pv 4) (fun _ _ => rfl)) pa_nil)) (pv 3) (nomark _))))) (pss_one (ps_ret (pe_un un_neg pe_int))) pss_nil)
      (pss_one (ps_ret (pe_op op_add (pv 4) pe_int))))))), ?_⟩
  refine ⟨_, rfl, ?_⟩
  refine minus_if g hn fun e he hx => ?_
  rw [hx] at k1 k2
  refine ⟨_, rfl, r_len (K := K) rfl g ⟨_, _, rfl, rfl, _, rfl, ?_⟩⟩
  refine ite2 (fun c => ?_) (fun c => ?_)
  · have c' : (row.length : Int) ≤ (e : Int) := of_decide_eq_true c
    refine iteT ⟨_, rfl, ?_⟩
    rw [List.drop_eq_nil_of_le (by omega)] at k1
    exact k1 rfl H (Same.refl H)
  have c1 : ¬ (row.length : Int) ≤ (e : Int) := of_decide_eq_false (Bool.eq_false_iff.mpr c)
  obtain ⟨s, r, ed, es, er⟩ := drop_cons (row := row) (n := e) (by omega)
  rw [ed] at k1
  rw [ed] at k2
  have hm2 : s ∈ row := List.mem_of_getElem? es
  have gs := g.good s hm2
  have ls := g.lens s hm2
  have hz := sl6 ls
  have el := len_tl s
  obtain ⟨x, q, ez⟩ : ∃ x q, tl s = x :: q := by
    cases e : tl s with
    | nil => exact absurd e gs.ne
    | cons c r => exact ⟨c, r, rfl⟩
  have ea := head_at ez
  obtain ⟨g1, g2⟩ := dig_of gs ez
  have bad : digOk s = none → Q (.int (-1)) H := fun e => k1 (by show (match digOk s with | some v => if v ≤ most then some r else none | none => none) = none; rw [e]) H (Same.refl H)
  refine r_row rfl rfl g es ⟨s, 0, x, rfl, rfl, hz, ea, x, _, rfl, rfl, _, rfl, ?_⟩
  rw [mem_DIGITS x]
  refine ite2 (fun c => ?_) (fun c => ?_)
  · exact iteT ⟨_, rfl, bad (g1 (.inl (by simpa using c)))⟩
  have d1 : dg x = true := by simpa using c
  refine r_row rfl rfl g es ⟨_, rfl, hz, _, _, rfl, rfl, _, rfl, ?_⟩
  refine ite2 (fun c => ?_) (fun c => ?_)
  · have c' : (7 : Int) < (s.length : Int) := of_decide_eq_true c
    exact ⟨_, rfl, bad (g1 (.inr (.inl (by omega))))⟩
  have d2 : (tl s).length ≤ 7 := by
    have c' : ¬ (7 : Int) < (s.length : Int) := of_decide_eq_false (Bool.eq_false_iff.mpr c)
    omega
  have es0 : (V.str ⟨#[x]⟩ = V.str "0") ↔ x = 48 := by
    have e0 : ("0" : Str) = ⟨#[48]⟩ := by decide +kernel
    rw [e0]
    constructor
    · intro e
      have := V.str.inj e
      injection this with e1
      have := congrArg Array.toList e1
      simpa using this
    · intro e; rw [e]
  refine r_row rfl rfl g es ⟨_, rfl, hz, _, _, rfl, rfl, _, rfl, ?_⟩
  refine ite2 (fun c => ?_) (fun c => ?_)
  have c4 : (1 : Int) < (s.length : Int) := of_decide_eq_true c
  refine r_row rfl rfl g es ⟨s, 0, x, rfl, rfl, hz, ea, rfl, _, rfl, ?_⟩
  refine ite2 (fun c => iteT ⟨_, rfl, bad (g1 (.inr (.inr ⟨by omega, es0.mp (of_decide_eq_true c)⟩)))⟩) (fun c => ?_)
  have d3 : ¬ (2 ≤ (tl s).length ∧ x = 48) := fun h => c (decide_eq_true (es0.mpr h.2))
  rotate_left 1
  have d3 : ¬ (2 ≤ (tl s).length ∧ x = 48) := fun h => by
    have c4 : ¬ (1 : Int) < (s.length : Int) := of_decide_eq_false (Bool.eq_false_iff.mpr c)
    omega
  refine iteF ?_
  all_goals
    obtain ⟨ha, hv⟩ := g2 d1 d2 d3
    have hint : PySem.intText? s = some ((dval (tl s) : Nat) : Int) := PySem.intText_digits (of_all_dg ha) gs.ne (by omega)
    refine r_row rfl rfl g es ⟨s, _, rfl, hint, by omega, _, rfl, _, _, rfl, rfl, _, rfl, ?_⟩
    refine ite2 (fun c => ?_) (fun c => ?_)
    · have c' : (most : Int) < (dval (tl s) : Int) := of_decide_eq_true c
      refine ⟨_, rfl, k1 ?_ H (Same.refl H)⟩
      show (match digOk s with | some v => if v ≤ most then some r else none | none => none) = none
      rw [hv]
      by_cases y : dval (tl s) ≤ 1000000
      · rw [if_pos y]; exact if_neg (by omega)
      · rw [if_neg y]
    · have c' : ¬ (most : Int) < (dval (tl s) : Int) := of_decide_eq_false (Bool.eq_false_iff.mpr c)
      refine ⟨_, rfl, _, _, rfl, rfl, ?_⟩
      have qq := k2 (e + 1) (by omega) (by
        show (match digOk s with | some v => if v ≤ most then some r else none | none => none) = _
        rw [hv, if_pos (by omega), er]; exact if_pos (by omega)) H (Same.refl H)
      have en : (((e + 1 : Nat) : Int)) = (e : Int) + 1 := by omega
      rw [en] at qq
      exact qq
end
end KT

namespace KT
open PySem PySem.Spec
open PyProof.Rows L2 KM
/-- where the walk ends, of an answer of its mirror -/
structure EW (row : List Str) (H : Hp) (Q : VK) (x : R) : Prop where
  nt : x ≠ .out
  bad : x = .bad → ∀ H', Same H H' → Q (.int (-1)) H'
  ok : ∀ ns r (m : Nat), x = .ok ns r → m ≤ row.length → r = row.drop m → ∀ H', Same H H' → Q (.int (m : Int)) H'
section
variable {row : List Str} {H : Hp} {Q Q2 : VK} {a : Addr} {σ : L2.St} {w : Str} {m j : Nat} {E : XK}
theorem EW.same {x : R} (h : EW row H Q x) {H1 : Hp} (s : Same H H1) : EW row H1 Q x := ⟨h.nt, fun e H' s' => h.bad e H' (s.trans s'), fun ns r m e l k H' s' => h.ok ns r m e l k H' (s.trans s')⟩
theorem EW.eq {x y : R} (h : EW row H Q x) (e : x = y) : EW row H Q y := e ▸ h
theorem EW.put {ns : List Nd} (h : EW row H Q (.ok ns (row.drop m))) (l : m ≤ row.length) : Q (.int (m : Int)) H := h.ok ns _ m rfl l rfl H (Same.refl H)
theorem EW.no (h : EW row H Q .bad) : Q (.int (-1)) H := h.bad rfl H (Same.refl H)
theorem EW.sub {x : R} {k : List Str → R} (h : EW row H Q (x.thn k)) (g1 : ∀ (m : Nat), m ≤ row.length → ∀ H', Same H H' → EW row H' Q (k (row.drop m)) → Q2 (.int (m : Int)) H') (g2 : ∀ H', Same H H' → Q (.int (-1)) H' → Q2 (.int (-1)) H') : EW row H Q2 x := by
  refine ⟨fun e => h.nt (by rw [e]; rfl), fun e H' s => g2 H' s (h.bad (by rw [e]; rfl) H' s), fun ns r m e l k' H' s => g1 m l H' s ?_⟩
  have := h.same s
  rw [e, k'] at this
  exact this
theorem End.sub {x : Option (List Str)} {k : List Str → R} {y : R} (h : EW row H Q y) (e1 : x = none → y = .bad) (e2 : ∀ r, x = some r → y = k r) (g1 : ∀ (m : Nat), m ≤ row.length → ∀ H', Same H H' → EW row H' Q (k (row.drop m)) → Q2 (.int (m : Int)) H') (g2 : ∀ H', Same H H' → Q (.int (-1)) H' → Q2 (.int (-1)) H') : End row H Q2 x :=
  ⟨fun e H' s => g2 H' s (h.bad (e1 e) H' s), fun m l e H' s => g1 m l H' s ((h.same s).eq (e2 _ e))⟩
theorem is_hit (h : row[m]? = some w) : row.drop m = w :: row.drop (m + 1) ∧ m < row.length := by
  have hn := (List.getElem?_eq_some_iff.mp h).1
  obtain ⟨s, r, e, es, er⟩ := drop_cons hn
  rw [h] at es
  have := Option.some.inj es
  exact ⟨by rw [e, this, er], hn⟩
theorem is_mis (h : ¬ row[m]? = some w) : ∀ r, row.drop m ≠ w :: r := fun r e => h (drop_head e).1
theorem c_is (g : Rw H a row) (h0 : σ[0]? = some (some (.ref a))) (hj : σ[j]? = some (some (.int (m : Int)))) (k : Q (.bl (decide (row[m]? = some w))) H) :
    tCall spIs [] E (tCons (tVar 0) (tCons (tVar j) (tCons (tC (.str w)) tNil))) σ H Q := ⟨_, h0, _, hj, a, row, _, w, rfl, g, .inr ⟨m, rfl, k⟩⟩
theorem c_is0 (g : Rw H a row) (h0 : σ[0]? = some (some (.ref a))) (hj : σ[j]? = some (some (.int (-1)))) (k : Q (.bl false) H) :
    tCall spIs [] E (tCons (tVar 0) (tCons (tVar j) (tCons (tC (.str w)) tNil))) σ H Q := ⟨_, h0, _, hj, a, row, _, w, rfl, g, .inl ⟨rfl, k⟩⟩
theorem c_is1 (g : Rw H a row) (h0 : σ[0]? = some (some (.ref a))) (hj : σ[j]? = some (some (.int (m : Int)))) (k : Q (.bl (decide (row[m + 1]? = some w))) H) :
    tCall spIs [] E (tCons (tVar 0) (tCons (tOp (rI0 fun i j => .int (i + j)) (tVar j) (tC (.int 1))) (tCons (tC (.str w)) tNil))) σ H Q := ⟨_, h0, _, hj, _, _, rfl, rfl, a, row, _, w, rfl, g, .inr ⟨m + 1, by omega, k⟩⟩
def spW (f : Nat) (wd : Wd) : Sp := fun vs H Q _ => ∃ (a : Addr) (row : List Str) (n g : Nat), vs = [.ref a, .int (n : Int)] ∧ Rw H a row ∧ n ≤ row.length ∧ g ≤ f ∧ EW row H Q (W g wd (row.drop n))
/-- inner is also called from nowhere -/
def spWi (f : Nat) : Sp := fun vs H Q E => spW f .inner vs H Q E ∨ ∃ (a : Addr) (row : List Str), vs = [.ref a, .int (-1)] ∧ Rw H a row ∧ Q (.int (-1)) H
theorem c_w {f g : Nat} {wd : Wd} (gr : Rw H a row) (h0 : σ[0]? = some (some (.ref a))) (hj : σ[j]? = some (some (.int (m : Int)))) (hm : m ≤ row.length) (hg : g ≤ f) (k : EW row H Q (W g wd (row.drop m))) :
    tCall (spW f wd) [] E (tCons (tVar 0) (tCons (tVar j) tNil)) σ H Q := ⟨_, h0, _, hj, a, row, m, g, rfl, gr, hm, hg, k⟩
theorem c_w1 {f g c : Nat} {wd : Wd} {z : Int} (gr : Rw H a row) (h0 : σ[0]? = some (some (.ref a))) (hj : σ[j]? = some (some (.int (m : Int)))) (hz : z = (c : Int)) (hm : m + c ≤ row.length) (hg : g ≤ f) (k : EW row H Q (W g wd (row.drop (m + c)))) :
    tCall (spW f wd) [] E (tCons (tVar 0) (tCons (tOp (rI0 fun i j => .int (i + j)) (tVar j) (tC (.int z))) tNil)) σ H Q := by
  subst hz
  exact ⟨_, h0, _, hj, _, _, rfl, rfl, a, row, m + c, g, rfl, gr, hm, hg, k⟩
end
section
variable {P : Program} {w : World} {K : PySem.W.Frag} {mg : Str → Option Value} {base : Heap}
theorem len_w {f : Nat} {wd : Wd} : ∀ vs H Q E, spW f wd vs H Q E → vs.length = 2 := fun vs H Q E h => by
  obtain ⟨a, row, n, g, rfl, _⟩ := h
  rfl
theorem w_inner (T : Tp w K mg) {f k : Nat} (hk : 3 ≤ k) (G__law_t : Cl P w K mg base k "_law_t" P__law_t (spW f .t)) : Cl P w K mg base (k + 1) "_law_inner" P__law_inner (spWi (f + 1)) := by
  have G__law_is := ok__law_is (P := P) (base := base) T
  refine cl_of T.f__law_inner T.g__law_inner sc__law_inner (fun _ F => b__law_inner F) (fun vs H Q E h => ?_) (fun cdv A outer s H vs Q E hr h => ?_)
  · rcases h with h | h
    · exact len_w _ _ _ _ h
    · obtain ⟨a, row, rfl, _⟩ := h
      rfl
  refine ⟨_, (pss_cons (ps_if (pt_not (pt_val (pe_cl G__law_is hr (by omega) pasE (pa_cons (pv 0) (pa_cons (pv 1) (pa_cons pe_str pa_nil)))))) (pss_one (ps_ret (pe_un un_neg pe_int))) pss_nil)
      (pss_cons (ps_set (i := 2) sc__law_inner.nd rfl (Or.inl rfl) (pe_cl G__law_t hr (by omega) pasE (pa_cons (pv 0) (pa_cons (pe_op op_add (pv 1) pe_int) pa_nil))))
      (pss_cons (ps_if (pt_not (pt_val (pe_cl G__law_is hr (by omega) pasE (pa_cons (pv 0) (pa_cons (pv 2) (pa_cons pe_str pa_nil)))))) (pss_one (ps_ret (pe_un un_neg pe_int))) pss_nil)
      (pss_one (ps_ret (pe_op op_add (pv 2) pe_int)))))), ?_⟩
  rcases h with ⟨a, row, n, g, rfl, gr, hn, hg, h⟩ | ⟨a, row, rfl, gr, q⟩
  · cases g with
    | zero => exact absurd rfl h.nt
    | succ g =>
    change EW row H Q (exp "(" (row.drop n) fun r => (W g .t r).thn fun r => exp ")" r fun r => .ok [] r) at h
    refine c_is gr rfl rfl ⟨_, rfl, ?_⟩
    refine ite2 (fun c => ?_) (fun c => ?_)
    · refine ⟨_, rfl, ?_⟩
      rw [exp_mis (is_mis (by simpa using c))] at h
      exact h.no
    obtain ⟨e, hn1⟩ := is_hit (row := row) (m := n) (w := "(") (by simpa using c)
    rw [exp_hit e] at h
    refine c_w1 (c := 1) gr rfl rfl rfl (by omega) (by omega) (h.sub (fun m hm H1 s1 h => ?_) (fun H1 s1 q => ?_))
    · have gr1 := gr.same s1
      refine c_is gr1 rfl rfl ⟨_, rfl, ?_⟩
      refine ite2 (fun c => ?_) (fun c => ?_)
      · refine ⟨_, rfl, ?_⟩
        rw [exp_mis (is_mis (by simpa using c))] at h
        exact h.no
      obtain ⟨e, hn2⟩ := is_hit (row := row) (m := m) (w := ")") (by simpa using c)
      rw [exp_hit e] at h
      refine ⟨_, rfl, _, _, rfl, rfl, ?_⟩
      have q := h.put (m := m + 1) (by omega)
      rw [show (((m + 1 : Nat) : Int)) = (m : Int) + 1 by omega] at q
      exact q
    · refine c_is0 (gr.same s1) rfl rfl ⟨_, rfl, ?_⟩
      exact iteT ⟨_, rfl, q⟩
  · refine c_is0 gr rfl rfl ⟨_, rfl, ?_⟩
    exact iteT ⟨_, rfl, q⟩
theorem w_two (T : Tp w K mg) {f k : Nat} (hk : 3 ≤ k) (G__law_t : Cl P w K mg base k "_law_t" P__law_t (spW f .t)) : Cl P w K mg base (k + 1) "_law_two" P__law_two (spW (f + 1) .two) := by
  have G__law_is := ok__law_is (P := P) (base := base) T
  refine cl_of T.f__law_two T.g__law_two sc__law_two (fun _ F => b__law_two F) len_w (fun cdv A outer s H vs Q E hr h => ?_)
  refine ⟨_, (pss_cons (ps_set (i := 2) sc__law_two.nd rfl (Or.inl rfl) (pe_cl G__law_t hr (by omega) pasE (pa_cons (pv 0) (pa_cons (pv 1) pa_nil))))
      (pss_cons (ps_if (pt_not (pt_val (pe_cl G__law_is hr (by omega) pasE (pa_cons (pv 0) (pa_cons (pv 2) (pa_cons pe_str pa_nil)))))) (pss_one (ps_ret (pe_un un_neg pe_int))) pss_nil)
      (pss_cons (ps_set (i := 2) sc__law_two.nd rfl (Or.inl rfl) (pe_cl G__law_t hr (by omega) pasE (pa_cons (pv 0) (pa_cons (pe_op op_add (pv 2) pe_int) pa_nil))))
      (pss_cons (ps_if (pt_not (pt_val (pe_cl G__law_is hr (by omega) pasE (pa_cons (pv 0) (pa_cons (pv 2) (pa_cons pe_str pa_nil)))))) (pss_one (ps_ret (pe_un un_neg pe_int))) pss_nil)
      (pss_one (ps_ret (pe_op op_add (pv 2) pe_int))))))), ?_⟩
  obtain ⟨a, row, n, g, rfl, gr, hn, hg, h⟩ := h
  cases g with
  | zero => exact absurd rfl h.nt
  | succ g =>
  change EW row H Q ((W g .t (row.drop n)).thn fun r => exp "," r fun r => (W g .t r).thn fun r => exp ")" r fun r => .ok [] r) at h
  refine c_w gr rfl rfl hn (by omega) (h.sub (fun m hm H1 s1 h => ?_) (fun H1 s1 q => ?_))
  · have gr := gr.same s1
    refine c_is gr rfl rfl ⟨_, rfl, ?_⟩
    refine ite2 (fun c => ?_) (fun c => ?_)
    · refine ⟨_, rfl, ?_⟩
      rw [exp_mis (is_mis (by simpa using c))] at h
      exact h.no
    obtain ⟨e, hn1⟩ := is_hit (row := row) (m := m) (w := ",") (by simpa using c)
    rw [exp_hit e] at h
    refine c_w1 (c := 1) gr rfl rfl rfl (by omega) (by omega) (h.sub (fun m2 hm H2 s2 h => ?_) (fun H2 s2 q => ?_))
    · have gr := gr.same s2
      refine c_is gr rfl rfl ⟨_, rfl, ?_⟩
      refine ite2 (fun c => ?_) (fun c => ?_)
      · refine ⟨_, rfl, ?_⟩
        rw [exp_mis (is_mis (by simpa using c))] at h
        exact h.no
      obtain ⟨e, hn2⟩ := is_hit (row := row) (m := m2) (w := ")") (by simpa using c)
      rw [exp_hit e] at h
      refine ⟨_, rfl, _, _, rfl, rfl, ?_⟩
      have q := h.put (m := m2 + 1) (by omega)
      rw [show (((m2 + 1 : Nat) : Int)) = (m2 : Int) + 1 by omega] at q
      exact q
    · refine c_is0 (gr.same s2) rfl rfl ⟨_, rfl, ?_⟩
      exact iteT ⟨_, rfl, q⟩
  · refine c_is0 (gr.same s1) rfl rfl ⟨_, rfl, ?_⟩
    exact iteT ⟨_, rfl, q⟩
theorem wadds_no {ts : List Str} (h1 : ¬ ts.head? = some ("+" : Str)) (h2 : ¬ ts.head? = some ("-" : Str)) : wadds ts = .ok [] ts := by
  cases ts with
  | nil => rfl
  | cons s r =>
    have hs : ¬ (s = "+" ∨ s = "-") := fun e => by
      rcases e with e | e
      · exact h1 (congrArg some e)
      · exact h2 (congrArg some e)
    cases r with
    | nil => exact if_neg hs
    | cons d q => exact if_neg hs
theorem wadds_yes {s : Str} {r : List Str} (hs : s = "+" ∨ s = "-") : (digL 1000000 r = none → wadds (s :: r) = .bad) ∧ ∀ q, digL 1000000 r = some q → wadds (s :: r) = wadds q := by
  cases r with
  | nil => exact ⟨fun _ => if_pos hs, fun q e => by cases e⟩
  | cons d r =>
    have e0 : wadds (s :: d :: r) = (match digOk d with
      | some _ => wadds r
      | none => .bad) := if_pos hs
    have e1 : digL 1000000 (d :: r) = (match digOk d with
      | some v => if v ≤ 1000000 then some r else none
      | none => none) := rfl
    cases e : digOk d with
    | none =>
      simp only [e] at e0 e1
      exact ⟨fun _ => e0, fun q h => (by rw [e1] at h; cases h)⟩
    | some v =>
      have := digOk_le e
      simp only [e, if_pos this] at e0 e1
      exact ⟨fun h => (by rw [e1] at h; cases h), fun q h => (by rw [e1] at h; rw [e0, Option.some.inj h])⟩
theorem w_t (T : Tp w K mg) {f k : Nat} (hk : 3 ≤ k) (G__law_atom : Cl P w K mg base k "_law_atom" P__law_atom (spW f .atom)) : Cl P w K mg base (k + 1) "_law_t" P__law_t (spW (f + 1) .t) := by
  have G__law_is := ok__law_is (P := P) (base := base) T
  have G__law_number := ok__law_number (P := P) (base := base) T
  refine cl_of T.f__law_t T.g__law_t sc__law_t (fun _ F => b__law_t F) len_w (fun cdv A outer s H vs Q E hr h => ?_)
  refine ⟨_, (pss_cons (ps_if (pt_cmpR op_lt (pv 1) pe_int (nomark _)) (pss_one (ps_ret (pe_un un_neg pe_int))) pss_nil)
      (pss_cons (ps_set (i := 2) sc__law_t.nd rfl (Or.inl rfl) (pe_cl G__law_atom hr (by omega) pasE (pa_cons (pv 0) (pa_cons (pv 1) pa_nil))))
      (pss_cons (ps_while pOwn (PW.pt (pw_or (pt_val (pe_cl G__law_is hr (by omega) pasE (pa_cons (pv 0) (pa_cons (pv 2) (pa_cons pe_str pa_nil))))) (pw_or1 (pt_val (pe_cl G__law_is hr (by omega) pasE (pa_cons (pv 0) (pa_cons (pv 2) (pa_cons pe_str pa_nil)))))))) (pss_one (ps_set (i := 2) sc__law_t.nd rfl (Or.inl rfl) (pe_cl G__law_number hr (by omega) pasE (pa_cons (pv 0) (pa_cons (pe_op op_add (pv 2) pe_int) (pa_cons pe_bl (pa_cons pe_int pa_nil))))))))
      (pss_one (ps_ret (pv 2)))))), ?_⟩
  obtain ⟨a, row, n, g, rfl, gr, hn, hg, h⟩ := h
  cases g with
  | zero => exact absurd rfl h.nt
  | succ g =>
  change EW row H Q ((W g .atom (row.drop n)).thn wadds) at h
  refine lt1 rfl (fun c => absurd c (by omega)) (fun _ => ?_)
  refine c_w gr rfl rfl hn (by omega) (h.sub (fun m hm H1 s1 h => ?_) (fun H1 s1 q => ?_))
  all_goals
    refine ⟨fun m σ H' => Rw H' a row ∧ ((∃ e : Nat, σ = [some (.ref a), some (.int (n : Int)), some (.int (e : Int))] ∧ e ≤ row.length ∧ EW row H' Q (wadds (row.drop e)) ∧ m = row.length - e + 1) ∨ (σ = [some (.ref a), some (.int (n : Int)), some (.int (-1))] ∧ Q (.int (-1)) H' ∧ m = 0)), ?_, ?_⟩
    first
      | exact ⟨_, gr.same s1, .inl ⟨m, rfl, hm, h, rfl⟩⟩
      | exact ⟨_, gr.same s1, .inr ⟨rfl, q, rfl⟩⟩
    rintro m σ H' ⟨gr, ⟨e, rfl, he, h, rfl⟩ | ⟨rfl, q, rfl⟩⟩
    · refine c_is gr rfl rfl ⟨_, rfl, ?_⟩
      have go : ∀ x : Str, (x = "+" ∨ x = "-") → row[e]? = some x → ∃ N : L2.St → Hp → Prop, (∀ σ' H'', N σ' H'' → ∃ m', m' < row.length - e + 1 ∧ (Rw H'' a row ∧ ((∃ e : Nat, σ' = [some (.ref a), some (.int (n : Int)), some (.int (e : Int))] ∧ e ≤ row.length ∧ EW row H'' Q (wadds (row.drop e)) ∧ m' = row.length - e + 1) ∨ (σ' = [some (.ref a), some (.int (n : Int)), some (.int (-1))] ∧ Q (.int (-1)) H'' ∧ m' = 0)))) ∧
          tCall spNum [] E (tCons (tVar 0) (tCons (tOp (rI0 fun i j => .int (i + j)) (tVar 2) (tC (.int 1))) (tCons (tC (.bl false)) (tCons (tC (.int 1000000)) tNil)))) [some (.ref a), some (.int (n : Int)), some (.int (e : Int))] H' fun v H2 => N [some (.ref a), some (.int (n : Int)), some v] H2 := fun x hx ex => by
        obtain ⟨ed, hlt⟩ := is_hit ex
        rw [ed] at h
        obtain ⟨y1, y2⟩ := wadds_yes (r := row.drop (e + 1)) hx
        refine ⟨fun σ' H'' => Rw H'' a row ∧ ((∃ e' : Nat, e < e' ∧ σ' = [some (.ref a), some (.int (n : Int)), some (.int (e' : Int))] ∧ e' ≤ row.length ∧ EW row H'' Q (wadds (row.drop e'))) ∨ (σ' = [some (.ref a), some (.int (n : Int)), some (.int (-1))] ∧ Q (.int (-1)) H'')), ?_, ?_⟩
        · rintro σ' H'' ⟨gr, ⟨e', h1, h2, h3, h4⟩ | ⟨h1, h2⟩⟩
          · exact ⟨_, by omega, gr, .inl ⟨e', h2, h3, h4, rfl⟩⟩
          · exact ⟨0, by omega, gr, .inr ⟨h1, h2, rfl⟩⟩
        refine ⟨_, rfl, _, rfl, _, _, rfl, rfl, a, row, e + 1, false, 1000000, rfl, gr, by omega, by omega, ?_⟩
        refine ⟨fun e0 H2 s2 => ⟨gr.same s2, .inr ⟨rfl, ((h.same s2).eq (y1 e0)).no⟩⟩, fun m2 hm2 e0 H2 s2 => ⟨gr.same s2, .inl ⟨m2, ?_, rfl, hm2, (h.same s2).eq (y2 _ e0)⟩⟩⟩
        -- the row grows shorter
        have e3 : digL 1000000 (row.drop (e + 1)) = some (row.drop m2) := e0
        cases er : row.drop (e + 1) with
        | nil => rw [er] at e3; cases e3
        | cons d q =>
          rw [er] at e3
          have e4 : (match digOk d with
            | some v => if v ≤ 1000000 then some q else none
            | none => none) = some (row.drop m2) := e3
          have e5 : q = row.drop m2 := by
            cases e6 : digOk d with
            | none => simp only [e6] at e4; cases e4
            | some v =>
              simp only [e6] at e4
              by_cases y : v ≤ 1000000
              · rw [if_pos y] at e4; exact Option.some.inj e4
              · rw [if_neg y] at e4; cases e4
          obtain ⟨_, e7, e8⟩ := drop_head er
          have e9 := congrArg List.length (e7.trans e5)
          rw [List.length_drop, List.length_drop] at e9
          omega
      refine ite2 (fun c => ?_) (fun c => ?_)
      · exact iteT (go "+" (.inl rfl) (of_decide_eq_true c))
      refine c_is gr rfl rfl ⟨_, rfl, ?_⟩
      refine ite2 (fun c2 => ?_) (fun c2 => ?_)
      · exact go "-" (.inr rfl) (of_decide_eq_true c2)
      · refine ⟨_, rfl, ?_⟩
        have n1 : ¬ row[e]? = some ("+" : Str) := fun z => c (decide_eq_true z)
        have n2 : ¬ row[e]? = some ("-" : Str) := fun z => c2 (decide_eq_true z)
        rw [wadds_no (by rw [List.head?_drop]; exact n1) (by rw [List.head?_drop]; exact n2)] at h
        exact h.put he
    · refine c_is0 gr rfl rfl ⟨_, rfl, iteF ?_⟩
      refine c_is0 gr rfl rfl ⟨_, rfl, iteF ?_⟩
      exact ⟨_, rfl, q⟩
theorem w_c (T : Tp w K mg) {f k : Nat} (hk : 3 ≤ k) (G__law_unit : Cl P w K mg base k "_law_unit" P__law_unit (spW f .unit)) : Cl P w K mg base (k + 1) "_law_c" P__law_c (spW (f + 1) .c) := by
  have G__law_is := ok__law_is (P := P) (base := base) T
  refine cl_of T.f__law_c T.g__law_c sc__law_c (fun _ F => b__law_c F) len_w (fun cdv A outer s H vs Q E hr h => ?_)
  refine ⟨_, (pss_cons (ps_set (i := 2) sc__law_c.nd rfl (Or.inl rfl) (pe_cl G__law_unit hr (by omega) pasE (pa_cons (pv 0) (pa_cons (pv 1) pa_nil))))
      (pss_cons (ps_while pOwn (PW.pt (pw_or (pt_val (pe_cl G__law_is hr (by omega) pasE (pa_cons (pv 0) (pa_cons (pv 2) (pa_cons pe_str pa_nil))))) (pw_or1 (pt_val (pe_cl G__law_is hr (by omega) pasE (pa_cons (pv 0) (pa_cons (pv 2) (pa_cons pe_str pa_nil)))))))) (pss_one (ps_set (i := 2) sc__law_c.nd rfl (Or.inl rfl) (pe_cl G__law_unit hr (by omega) pasE (pa_cons (pv 0) (pa_cons (pe_op op_add (pv 2) pe_int) pa_nil))))))
      (pss_one (ps_ret (pv 2))))), ?_⟩
  obtain ⟨a, row, n, g, rfl, gr, hn, hg, h⟩ := h
  cases g with
  | zero => exact absurd rfl h.nt
  | succ g =>
  change EW row H Q ((W g .unit (row.drop n)).thn fun r => W g .cs r) at h
  refine c_w gr rfl rfl hn (by omega) (h.sub (fun m hm H1 s1 h => ?_) (fun H1 s1 q => ?_))
  all_goals
    refine ⟨fun m σ H' => Rw H' a row ∧ ((∃ e : Nat, σ = [some (.ref a), some (.int (n : Int)), some (.int (e : Int))] ∧ e ≤ row.length ∧ m ≤ g + 1 ∧ ∃ g', m = g' + 1 ∧ EW row H' Q (W g' .cs (row.drop e))) ∨ (σ = [some (.ref a), some (.int (n : Int)), some (.int (-1))] ∧ Q (.int (-1)) H' ∧ m = 0)), ?_, ?_⟩
    first
      | exact ⟨_, gr.same s1, .inl ⟨m, rfl, hm, Nat.le_refl _, g, rfl, h⟩⟩
      | exact ⟨_, gr.same s1, .inr ⟨rfl, q, rfl⟩⟩
    rintro m σ H' ⟨gr, ⟨e, rfl, he, hmg, g', rfl, h⟩ | ⟨rfl, q, rfl⟩⟩
    · cases g' with
      | zero => exact absurd rfl h.nt
      | succ g' =>
      refine c_is gr rfl rfl ⟨_, rfl, ?_⟩
      have go : ∀ x : Str, (x = "and" ∨ x = "or") → row[e]? = some x → ∃ N : L2.St → Hp → Prop, (∀ σ' H'', N σ' H'' → ∃ m', m' < g' + 1 + 1 ∧ (Rw H'' a row ∧ ((∃ e : Nat, σ' = [some (.ref a), some (.int (n : Int)), some (.int (e : Int))] ∧ e ≤ row.length ∧ m' ≤ g + 1 ∧ ∃ g', m' = g' + 1 ∧ EW row H'' Q (W g' .cs (row.drop e))) ∨ (σ' = [some (.ref a), some (.int (n : Int)), some (.int (-1))] ∧ Q (.int (-1)) H'' ∧ m' = 0)))) ∧
          tCall (spW f .unit) [] E (tCons (tVar 0) (tCons (tOp (rI0 fun i j => .int (i + j)) (tVar 2) (tC (.int 1))) tNil)) [some (.ref a), some (.int (n : Int)), some (.int (e : Int))] H' fun v H2 => N [some (.ref a), some (.int (n : Int)), some v] H2 := fun x hx ex => by
        obtain ⟨ed, hlt⟩ := is_hit ex
        rw [ed] at h
        have h2 : EW row H' Q ((W g' .unit (row.drop (e + 1))).thn fun r => W g' .cs r) := h.eq ((wstep_cs (W g') x _).trans (if_pos hx))
        refine ⟨fun σ' H'' => Rw H'' a row ∧ ((∃ e' : Nat, σ' = [some (.ref a), some (.int (n : Int)), some (.int (e' : Int))] ∧ e' ≤ row.length ∧ EW row H'' Q (W g' .cs (row.drop e'))) ∨ (σ' = [some (.ref a), some (.int (n : Int)), some (.int (-1))] ∧ Q (.int (-1)) H'')), ?_, ?_⟩
        · rintro σ' H'' ⟨gr, ⟨e', h2, h3, h4⟩ | ⟨h1, h2⟩⟩
          · exact ⟨_, by omega, gr, .inl ⟨e', h2, h3, by omega, g', rfl, h4⟩⟩
          · exact ⟨0, by omega, gr, .inr ⟨h1, h2, rfl⟩⟩
        exact c_w1 (c := 1) gr rfl rfl rfl (by omega) (by omega) (h2.sub (fun m2 hm2 H2 s2 h => ⟨gr.same s2, .inl ⟨m2, rfl, hm2, h⟩⟩) (fun H2 s2 q => ⟨gr.same s2, .inr ⟨rfl, q⟩⟩))
      refine ite2 (fun c => ?_) (fun c => ?_)
      · exact iteT (go "and" (.inl rfl) (of_decide_eq_true c))
      refine c_is gr rfl rfl ⟨_, rfl, ?_⟩
      refine ite2 (fun c2 => ?_) (fun c2 => ?_)
      · exact go "or" (.inr rfl) (of_decide_eq_true c2)
      · refine ⟨_, rfl, ?_⟩
        have n1 : ¬ row[e]? = some ("and" : Str) := fun z => c (decide_eq_true z)
        have n2 : ¬ row[e]? = some ("or" : Str) := fun z => c2 (decide_eq_true z)
        have e0 : W (g' + 1) .cs (row.drop e) = .ok [] (row.drop e) := by
          cases ed : row.drop e with
          | nil => rfl
          | cons s r =>
            obtain ⟨es, _⟩ := drop_head ed
            rw [es] at n1 n2
            exact (wstep_cs (W g') s r).trans (if_neg fun z => by
              rcases z with z | z
              · exact n1 (congrArg some z)
              · exact n2 (congrArg some z))
        rw [e0] at h
        exact h.put he
    · refine c_is0 gr rfl rfl ⟨_, rfl, iteF ?_⟩
      refine c_is0 gr rfl rfl ⟨_, rfl, iteF ?_⟩
      exact ⟨_, rfl, q⟩
theorem wstep_unit (S : Wd → List Str → R) (s : Str) (r : List Str) : wstep S .unit (s :: r) = (if s = "not" then S .unit r else if s = "yes" then .ok [] r else if s = "?" then nam r fun _ r => .ok [] r
      else if s = "is" then nam r fun _ r => S .inner r else if s = "[" then (S .c r).thn fun r => exp "]" r fun r => .ok [] r else wcomp S (s :: r)) := rfl
theorem wu_not (S : Wd → List Str → R) (r : List Str) : wstep S .unit ("not" :: r) = S .unit r := by rw [wstep_unit, if_pos rfl]
theorem wu_yes (S : Wd → List Str → R) (r : List Str) : wstep S .unit ("yes" :: r) = .ok [] r := by rw [wstep_unit, if_neg (sne (by decide +kernel)), if_pos rfl]
theorem wu_flag (S : Wd → List Str → R) (r : List Str) : wstep S .unit ("?" :: r) = nam r fun _ r => .ok [] r := by rw [wstep_unit, if_neg (sne (by decide +kernel)), if_neg (sne (by decide +kernel)), if_pos rfl]
theorem wu_is (S : Wd → List Str → R) (r : List Str) : wstep S .unit ("is" :: r) = nam r fun _ r => S .inner r := by rw [wstep_unit, if_neg (sne (by decide +kernel)), if_neg (sne (by decide +kernel)), if_neg (sne (by decide +kernel)), if_pos rfl]
theorem wu_br (S : Wd → List Str → R) (r : List Str) : wstep S .unit ("[" :: r) = (S .c r).thn fun r => exp "]" r fun r => .ok [] r := by
  rw [wstep_unit, if_neg (sne (by decide +kernel)), if_neg (sne (by decide +kernel)), if_neg (sne (by decide +kernel)), if_neg (sne (by decide +kernel)), if_pos rfl]
theorem wu_else (S : Wd → List Str → R) (s : Str) (r : List Str) (h1 : ¬ s = "not") (h2 : ¬ s = "yes") (h3 : ¬ s = "?") (h4 : ¬ s = "is") (h5 : ¬ s = "[") : wstep S .unit (s :: r) = wcomp S (s :: r) := by
  rw [wstep_unit, if_neg h1, if_neg h2, if_neg h3, if_neg h4, if_neg h5]
theorem nam_L {ts : List Str} {k : List Str → R} : (namL ts = none → (nam ts fun _ r => k r) = .bad) ∧ ∀ r, namL ts = some r → (nam ts fun _ r => k r) = k r := by
  cases ts with
  | nil => exact ⟨fun _ => rfl, fun r e => by cases e⟩
  | cons s r =>
    by_cases c : isName s = true
    · have e1 : namL (s :: r) = some r := if_pos c
      exact ⟨fun e => (by rw [e1] at e; cases e), fun q e => (by rw [e1] at e; rw [← Option.some.inj e]; exact if_pos c)⟩
    · have e1 : namL (s :: r) = none := if_neg c
      exact ⟨fun _ => if_neg c, fun q e => (by rw [e1] at e; cases e)⟩
theorem r_eq {row : List Str} {H : Hp} {a : Addr} {σ : L2.St} {D : Ends} {n : Nat} {x y : Str} {A B : TS} (gr : Rw H a row) (h0 : σ[0]? = some (some (.ref a))) (h1 : σ[1]? = some (some (.int (n : Int)))) (es : row[n]? = some x) (kA : x = y → A D σ H) (kB : ¬ x = y → B D σ H) :
    tIfS (tTest (tOp rEq (tOp (rIxL K) (tVar 0) (tVar 1)) (tC (.str y)))) A B D σ H := by
  refine r_row h0 h1 gr es ⟨rfl, _, rfl, ?_⟩
  exact ite2 (fun c => kA (V.str.inj (of_decide_eq_true c))) (fun c => kB (neV c))
theorem c_named {row : List Str} {H : Hp} {Q : VK} {a : Addr} {σ : L2.St} {m c j : Nat} {E : XK} {z : Int} (gr : Rw H a row) (h0 : σ[0]? = some (some (.ref a))) (hj : σ[j]? = some (some (.int (m : Int)))) (hz : z = (c : Int)) (hm : m + c ≤ row.length) (k : End row H Q (namL (row.drop (m + c)))) :
    tCall spNamed [] E (tCons (tVar 0) (tCons (tOp (rI0 fun i j => .int (i + j)) (tVar j) (tC (.int z))) tNil)) σ H Q := by
  subst hz
  exact ⟨_, h0, _, hj, _, _, rfl, rfl, a, row, m + c, rfl, gr, hm, k⟩
theorem w_unit (T : Tp w K mg) {f k : Nat} (hk : 3 ≤ k) (G__law_unit : Cl P w K mg base k "_law_unit" P__law_unit (spW f .unit)) (G__law_inner : Cl P w K mg base k "_law_inner" P__law_inner (spWi f)) (G__law_c : Cl P w K mg base k "_law_c" P__law_c (spW f .c)) (G__law_t : Cl P w K mg base k "_law_t" P__law_t (spW f .t)) :
    Cl P w K mg base (k + 1) "_law_unit" P__law_unit (spW (f + 1) .unit) := by
  have G__law_is := ok__law_is (P := P) (base := base) T
  have G__law_named := ok__law_named (P := P) (base := base) T
  refine cl_of T.f__law_unit T.g__law_unit sc__law_unit (fun _ F => b__law_unit F) len_w (fun cdv A outer s H vs Q E hr h => ?_)
  refine ⟨_, (pss_cons (ps_if (PW.pt (pw_or (pt_cmpR op_lt (pv 1) pe_int (nomark _)) (pw_or1 (pt_cmpR op_ge (pv 1) (pe_callB call_len_seq rfl T.z_len PySem.boot_len (pa_cons (pv 0) pa_nil)) (nomark _))))) (pss_one (ps_ret (pe_un un_neg pe_int))) pss_nil)
      (pss_cons (ps_if (pt_cmpR op_eq (pe_ix ix_list (pv 0) (pv 1) (fun _ _ => rfl)) pe_str (nomark _)) (pss_one (ps_ret (pe_cl G__law_unit hr (by omega) pasE (pa_cons (pv 0) (pa_cons (pe_op op_add (pv 1) pe_int) pa_nil))))) pss_nil)
      (pss_cons (ps_if (pt_cmpR op_eq (pe_ix ix_list (pv 0) (pv 1) (fun _ _ => rfl)) pe_str (nomark _)) (pss_one (ps_ret (pe_op op_add (pv 1) pe_int))) pss_nil)
      (pss_cons (ps_if (pt_cmpR op_eq (pe_ix ix_list (pv 0) (pv 1) (fun _ _ => rfl)) pe_str (nomark _)) (pss_one (ps_ret (pe_cl G__law_named hr (by omega) pasE (pa_cons (pv 0) (pa_cons (pe_op op_add (pv 1) pe_int) pa_nil))))) pss_nil)
      (pss_cons (ps_if (pt_cmpR op_eq (pe_ix ix_list (pv 0) (pv 1) (fun _ _ => rfl)) pe_str (nomark _)) (pss_one (ps_ret (pe_cl G__law_inner hr (by omega) pasE (pa_cons (pv 0) (pa_cons (pe_cl G__law_named hr (by omega) pasE (pa_cons (pv 0) (pa_cons (pe_op op_add (pv 1) pe_int) pa_nil))) pa_nil))))) pss_nil)
      (pss_cons (ps_if (pt_cmpR op_eq (pe_ix ix_list (pv 0) (pv 1) (fun _ _ => rfl)) pe_str (nomark _)) (pss_cons (ps_set (i := 2) sc__law_unit.nd rfl (Or.inl rfl) (pe_cl G__law_c hr (by omega) pasE (pa_cons (pv 0) (pa_cons (pe_op op_add (pv 1) pe_int) pa_nil))))
      (pss_cons (ps_if (pt_not (pt_val (pe_cl G__law_is hr (by omega) pasE (pa_cons (pv 0) (pa_cons (pv 2) (pa_cons pe_str pa_nil)))))) (pss_one (ps_ret (pe_un un_neg pe_int))) pss_nil)
      (pss_one (ps_ret (pe_op op_add (pv 2) pe_int))))) pss_nil)
      (pss_cons (ps_set (i := 2) sc__law_unit.nd rfl (Or.inl rfl) (pe_cl G__law_t hr (by omega) pasE (pa_cons (pv 0) (pa_cons (pv 1) pa_nil))))
      (pss_cons (ps_if (PW.pt (pw_or (pt_cmpR op_lt (pv 2) pe_int (nomark _)) (pw_or (pt_cmpR op_ge (pv 2) (pe_callB call_len_seq rfl T.z_len PySem.boot_len (pa_cons (pv 0) pa_nil)) (nomark _)) (pw_or1 (pt_cmpR op_notIn_seq (pe_ix ix_list (pv 0) (pv 2) (fun _ _ => rfl)) (pe_lst (pa_cons pe_str (pa_cons pe_str (pa_cons pe_str pa_nil)))) (by rfl)))))) (pss_one (ps_ret (pe_un un_neg pe_int))) pss_nil)
      (pss_one (ps_ret (pe_cl G__law_t hr (by omega) pasE (pa_cons (pv 0) (pa_cons (pe_op op_add (pv 2) pe_int) pa_nil))))))))))))), ?_⟩
  obtain ⟨a, row, n, g, rfl, gr, hn, hg, h⟩ := h
  cases g with
  | zero => exact absurd rfl h.nt
  | succ g =>
  change EW row H Q (wstep (W g) .unit (row.drop n)) at h
  refine ⟨_, rfl, _, _, rfl, rfl, _, rfl, ?_⟩
  rw [decide_eq_false (show ¬ (n : Int) < 0 by omega)]
  refine iteF ⟨_, rfl, r_len (K := K) rfl gr ⟨_, _, rfl, rfl, _, rfl, ?_⟩⟩
  refine ite2 (fun c => ?_) (fun c => ?_)
  · have c' : (row.length : Int) ≤ (n : Int) := of_decide_eq_true c
    rw [List.drop_eq_nil_of_le (by omega)] at h
    exact ⟨_, rfl, h.no⟩
  have c1 : ¬ (row.length : Int) ≤ (n : Int) := of_decide_eq_false (Bool.eq_false_iff.mpr c)
  obtain ⟨x, r, ed, es, er⟩ := drop_cons (row := row) (n := n) (by omega)
  rw [ed] at h
  refine r_eq gr rfl rfl es (fun e => ?_) (fun n1 => ?_)
  · subst e
    rw [wu_not, ← er] at h
    exact c_w1 (c := 1) gr rfl rfl rfl (by omega) (by omega) h
  refine r_eq gr rfl rfl es (fun e => ?_) (fun n2 => ?_)
  · subst e
    rw [wu_yes, ← er] at h
    refine ⟨_, rfl, _, _, rfl, rfl, ?_⟩
    have q := h.put (m := n + 1) (by omega)
    rw [show (((n + 1 : Nat) : Int)) = (n : Int) + 1 by omega] at q
    exact q
  refine r_eq gr rfl rfl es (fun e => ?_) (fun n3 => ?_)
  · subst e
    rw [wu_flag, ← er] at h
    exact c_named (c := 1) gr rfl rfl rfl (by omega) (End.sub h nam_L.1 nam_L.2 (fun m hm H1 s1 h => h.put hm) (fun H1 s1 q => q))
  refine r_eq gr rfl rfl es (fun e => ?_) (fun n4 => ?_)
  · subst e
    rw [wu_is, ← er] at h
    refine ⟨_, rfl, ?_⟩
    refine c_named (c := 1) gr rfl rfl rfl (by omega) (End.sub h nam_L.1 nam_L.2 (fun m hm H1 s1 h => ?_) (fun H1 s1 q => ?_))
    · exact .inl ⟨a, row, m, g, rfl, gr.same s1, hm, by omega, h⟩
    · exact .inr ⟨a, row, rfl, gr.same s1, q⟩
  refine r_eq gr rfl rfl es (fun e => ?_) (fun n5 => ?_)
  · subst e
    rw [wu_br, ← er] at h
    refine c_w1 (c := 1) gr rfl rfl rfl (by omega) (by omega) (h.sub (fun m hm H1 s1 h => ?_) (fun H1 s1 q => ?_))
    · have gr := gr.same s1
      refine c_is gr rfl rfl ⟨_, rfl, ?_⟩
      refine ite2 (fun c => ?_) (fun c => ?_)
      · refine ⟨_, rfl, ?_⟩
        rw [exp_mis (is_mis (by simpa using c))] at h
        exact h.no
      obtain ⟨e, hn1⟩ := is_hit (row := row) (m := m) (w := "]") (by simpa using c)
      rw [exp_hit e] at h
      refine ⟨_, rfl, _, _, rfl, rfl, ?_⟩
      have q := h.put (m := m + 1) (by omega)
      rw [show (((m + 1 : Nat) : Int)) = (m : Int) + 1 by omega] at q
      exact q
    · refine c_is0 (gr.same s1) rfl rfl ⟨_, rfl, ?_⟩
      exact iteT ⟨_, rfl, q⟩
  rw [wu_else _ _ _ n1 n2 n3 n4 n5, ← ed] at h
  have h : EW row H Q ((W g .t (row.drop n)).thn fun r => match r with
    | [] => .bad
    | s :: r => if s = "<=" ∨ s = "<" ∨ s = "=" then W g .t r else .bad) := h
  refine c_w gr rfl rfl hn (by omega) (h.sub (fun m hm H1 s1 h => ?_) (fun H1 s1 q => ?_))
  · have gr := gr.same s1
    refine ⟨_, rfl, _, _, rfl, rfl, _, rfl, ?_⟩
    rw [decide_eq_false (show ¬ (m : Int) < 0 by omega)]
    refine iteF ⟨_, rfl, r_len (K := K) rfl gr ⟨_, _, rfl, rfl, _, rfl, ?_⟩⟩
    refine ite2 (fun c => ?_) (fun c => ?_)
    · have c' : (row.length : Int) ≤ (m : Int) := of_decide_eq_true c
      rw [List.drop_eq_nil_of_le (by omega)] at h
      exact iteT ⟨_, rfl, h.no⟩
    have c1 : ¬ (row.length : Int) ≤ (m : Int) := of_decide_eq_false (Bool.eq_false_iff.mpr c)
    obtain ⟨y, r2, ed2, es2, er2⟩ := drop_cons (row := row) (n := m) (by omega)
    rw [ed2] at h
    refine r_row rfl rfl gr es2 ⟨by show 3 ≤ sizeLine; decide, fun b nb => ⟨b, _, rfl, seq_lst upd_same, rfl, rfl, _, rfl, ?_⟩⟩
    have s2 := same_upd (o := .lst [.str "<=", .str "<", .str "="]) nb
    refine ite2 (fun c => ?_) (fun c => ?_)
    · have c' : y ∉ (["<=", "<", "="] : List Str) := ninL (by simpa using c)
      have h := (h.same s2).eq (if_neg fun z => c' (by simpa using z))
      exact ⟨_, rfl, h.no⟩
    · have c' : y ∈ (["<=", "<", "="] : List Str) := inL (by simpa using c)
      have h : EW row _ Q (W g .t r2) := (h.same s2).eq (if_pos (by simpa using c'))
      rw [← er2] at h
      exact c_w1 (c := 1) (gr.same s2) rfl rfl rfl (by omega) (by omega) h
  · exact ⟨_, rfl, _, _, rfl, rfl, _, rfl, iteT ⟨_, rfl, q⟩⟩
theorem fold_ge : ∀ (l : List Nat) (a : Nat), 1 ≤ a → 1 ≤ l.foldl (fun v c => v * 10 + (c - 48)) a
  | [], a, h => h
  | c :: l, a, h => fold_ge l (a * 10 + (c - 48)) (by omega)
theorem dig0 {s : Str} {v : Nat} (h : digOk s = some v) : s = "0" ↔ v = 0 := by
  constructor
  · intro e
    rw [e] at h
    have e0 : digOk "0" = some 0 := by decide +kernel
    rw [e0] at h
    exact (Option.some.inj h).symm
  · intro e
    subst e
    unfold digOk at h
    split at h
    · rename_i c
      simp only [Bool.and_eq_true, decide_eq_true_eq, Bool.not_eq_true', Bool.and_eq_false_iff, decide_eq_false_iff_not] at c
      obtain ⟨c1, c2, c3, c4, c5⟩ := c
      have hv := Option.some.inj h
      cases ez : tl s with
      | nil => rw [ez] at c1; exact absurd c1 (by decide)
      | cons x l =>
        rw [ez] at hv c3
        have hx : dg x = true := by rw [List.all_cons, Bool.and_eq_true] at c3; exact c3.1
        simp only [dg, Bool.and_eq_true, decide_eq_true_eq] at hx
        have hf : l.foldl (fun v c => v * 10 + (c - 48)) (0 * 10 + (x - 48)) = 0 := hv
        have h0 : x = 48 := by
          by_cases y : x = 48
          · exact y
          · have := fold_ge l (0 * 10 + (x - 48)) (by omega)
            omega
        have hl : l = [] := by
          rcases c4 with c4 | c4
          · rw [ez, List.length_cons] at c4
            exact List.length_eq_zero_iff.mp (by omega)
          · exact absurd (by rw [ez, h0]; rfl) c4
        refine TL.ext_tl ?_
        have e0 : TL.tl ("0" : Str) = [48] := by decide +kernel
        rw [e0]
        show tl s = _
        rw [ez, h0, hl]
    · cases h
theorem nums_if (ts : List Str) (k : Int → List Str → R) : nums ts k = if ts.head? = some ("-" : Str) then digs ts.tail fun n q => k (-(n : Int)) q else digs ts fun n q => k (n : Int) q := by
  cases ts with
  | nil => rfl
  | cons s r =>
    by_cases c : s = "-"
    · rw [if_pos (by rw [c]; rfl)]; exact if_pos c
    · rw [if_neg (show ¬ (s :: r).head? = some ("-" : Str) from fun e => c (Option.some.inj e))]; exact if_neg c
theorem dig_L {ts : List Str} {most : Nat} {k : Nat → List Str → R} (hk : ∀ n r, most < n → n ≤ 1000000 → k n r = .bad) : (digL most ts = none → digs ts k = .bad) ∧ ∀ r, digL most ts = some r → ∃ s v, ts = s :: r ∧ digOk s = some v ∧ v ≤ most ∧ digs ts k = k v r := by
  cases ts with
  | nil => exact ⟨fun _ => rfl, fun r e => by cases e⟩
  | cons s q =>
    have e1 : digL most (s :: q) = (match digOk s with
      | some v => if v ≤ most then some q else none
      | none => none) := rfl
    have e2 : digs (s :: q) k = (match digOk s with
      | some v => k v q
      | none => .bad) := rfl
    cases e : digOk s with
    | none =>
      simp only [e] at e1 e2
      exact ⟨fun _ => e2, fun r h => (by rw [e1] at h; cases h)⟩
    | some v =>
      simp only [e] at e1 e2
      by_cases y : v ≤ most
      · rw [if_pos y] at e1
        exact ⟨fun h => (by rw [e1] at h; cases h), fun r h => (by rw [e1] at h; obtain rfl := Option.some.inj h; exact ⟨s, v, rfl, e, y, e2⟩)⟩
      · rw [if_neg y] at e1
        exact ⟨fun _ => e2.trans (hk v q (by omega) (digOk_le e)), fun r h => (by rw [e1] at h; cases h)⟩
theorem num_A {ts : List Str} {k : List Str → R} : (numL true 1000000 ts = none → (nums ts fun _ r => k r) = .bad) ∧ ∀ r, numL true 1000000 ts = some r → (nums ts fun _ r => k r) = k r := by
  rw [nums_if]
  unfold numL
  by_cases c : ts.head? = some ("-" : Str)
  · rw [if_pos ⟨rfl, c⟩, if_pos c]
    have := dig_L (ts := ts.tail) (most := 1000000) (k := fun _ q => k q) (fun n r a b => by omega)
    exact ⟨this.1, fun r e => by obtain ⟨s, v, _, _, _, h⟩ := this.2 r e; exact h⟩
  · rw [if_neg (fun h => c h.2), if_neg c]
    have := dig_L (ts := ts) (most := 1000000) (k := fun _ q => k q) (fun n r a b => by omega)
    exact ⟨this.1, fun r e => by obtain ⟨s, v, _, _, _, h⟩ := this.2 r e; exact h⟩
theorem num_B {ts : List Str} {k : List Str → R} : (numL true 6 ts = none → (nums ts fun n r => if n = 0 ∨ n > 6 ∨ n < -6 then .bad else k r) = .bad) ∧
    ∀ r, numL true 6 ts = some r → ∃ p s v, ts = p ++ s :: r ∧ digOk s = some v ∧ (nums ts fun n r => if n = 0 ∨ n > 6 ∨ n < -6 then .bad else k r) = if v = 0 then .bad else k r := by
  rw [nums_if]
  unfold numL
  by_cases c : ts.head? = some ("-" : Str)
  · rw [if_pos ⟨rfl, c⟩, if_pos c]
    have := dig_L (ts := ts.tail) (most := 6) (k := fun n q => if (-(n : Int)) = 0 ∨ (-(n : Int)) > 6 ∨ (-(n : Int)) < -6 then .bad else k q) (fun n r a b => if_pos (by omega))
    refine ⟨this.1, fun r e => ?_⟩
    obtain ⟨s, v, h1, h2, h3, h4⟩ := this.2 r e
    refine ⟨["-"], s, v, ?_, h2, ?_⟩
    · cases ts with
      | nil => cases c
      | cons x q =>
        rw [← Option.some.inj c]
        exact congrArg (x :: ·) h1
    · rw [h4]
      by_cases y : v = 0
      · rw [if_pos y, if_pos (by omega)]
      · rw [if_neg y, if_neg (by omega)]
  · rw [if_neg (fun h => c h.2), if_neg c]
    have := dig_L (ts := ts) (most := 6) (k := fun n q => if (n : Int) = 0 ∨ (n : Int) > 6 ∨ (n : Int) < -6 then .bad else k q) (fun n r a b => if_pos (by omega))
    refine ⟨this.1, fun r e => ?_⟩
    obtain ⟨s, v, h1, h2, h3, h4⟩ := this.2 r e
    refine ⟨[], s, v, h1, h2, ?_⟩
    rw [h4]
    by_cases y : v = 0
    · rw [if_pos y, if_pos (by omega)]
    · rw [if_neg y, if_neg (by omega)]
theorem last_tok {row p : List Str} {n m : Nat} {s : Str} (hm : m ≤ row.length) (h : row.drop n = p ++ s :: row.drop m) : 1 ≤ m ∧ row[m - 1]? = some s := by
  have e : row = row.take n ++ (p ++ s :: row.drop m) := by rw [← h, List.take_append_drop]
  have hl := congrArg List.length e
  simp only [List.length_append, List.length_cons, List.length_drop] at hl
  have hp : (row.take n ++ p).length = m - 1 := by rw [List.length_append]; omega
  refine ⟨by omega, ?_⟩
  rw [← List.append_assoc] at e
  rw [e, List.getElem?_append_right (by omega), hp, Nat.sub_self]
  rfl
theorem wstep_atom (S : Wd → List Str → R) (s : Str) (r : List Str) : wstep S .atom (s :: r) = (if s = "(" then S .inner (s :: r)
      else if s = "@" then nums r fun _ r => .ok [] r
      else if s = "next" ∨ s = "prev" then nam r fun _ r => S .inner r
      else if s = "open" then nam r fun _ r => nums r fun n r => if n = 0 ∨ n > 6 ∨ n < -6 then .bad else S .inner r
      else if s = "later" ∨ s = "earlier" then exp "(" r fun r => S .two r
      else if s = "if" then exp "(" r fun r => (S .c r).thn fun r => exp "," r fun r => S .two r
      else if isName s = true then .ok [] r else .bad) := rfl
theorem r_eq2 {H : Hp} {σ : L2.St} {D : Ends} {x y : Str} {A B : TS} (h2 : σ[2]? = some (some (.str x))) (kA : x = y → A D σ H) (kB : ¬ x = y → B D σ H) :
    tIfS (tTest (tOp rEq (tVar 2) (tC (.str y)))) A B D σ H := by
  refine ⟨_, h2, rfl, _, rfl, ?_⟩
  exact ite2 (fun c => kA (V.str.inj (of_decide_eq_true c))) (fun c => kB (neV c))
theorem c_num {row : List Str} {H : Hp} {Q : VK} {a : Addr} {σ : L2.St} {m most : Nat} {E : XK} {te : TE} {z : Int} (gr : Rw H a row) (h0 : σ[0]? = some (some (.ref a))) (hj : ∀ Q : VK, Q (.int (m : Int)) H → te σ H Q) (hz : z = (most : Int)) (hm : m ≤ row.length) (h6 : most ≤ 1000000) (k : End row H Q (numL true most (row.drop m))) :
    tCall spNum [] E (tCons (tVar 0) (tCons te (tCons (tC (.bl true)) (tCons (tC (.int z)) tNil)))) σ H Q := by
  subst hz
  refine ⟨_, h0, hj _ ?_⟩
  exact ⟨a, row, m, true, most, rfl, gr, hm, h6, k⟩
theorem w_atom (T : Tp w K mg) {f k : Nat} (hk : 3 ≤ k) (G__law_inner : Cl P w K mg base k "_law_inner" P__law_inner (spWi f)) (G__law_two : Cl P w K mg base k "_law_two" P__law_two (spW f .two)) (G__law_c : Cl P w K mg base k "_law_c" P__law_c (spW f .c)) :
    Cl P w K mg base (k + 1) "_law_atom" P__law_atom (spW (f + 1) .atom) := by
  have G__law_is := ok__law_is (P := P) (base := base) T
  have G__law_named := ok__law_named (P := P) (base := base) T
  have G__law_number := ok__law_number (P := P) (base := base) T
  refine cl_of T.f__law_atom T.g__law_atom sc__law_atom (fun _ F => b__law_atom F) len_w (fun cdv A outer s H vs Q E hr h => ?_)
  refine ⟨_, (pss_cons (ps_if (pt_cmpR op_ge (pv 1) (pe_callB call_len_seq rfl T.z_len PySem.boot_len (pa_cons (pv 0) pa_nil)) (nomark _)) (pss_one (ps_ret (pe_un un_neg pe_int))) pss_nil)
      (pss_cons (ps_set (i := 2) sc__law_atom.nd rfl (Or.inl rfl) (pe_ix ix_list (pv 0) (pv 1) (fun _ _ => rfl)))
      (pss_cons (ps_if (pt_cmpR op_eq (pv 2) pe_str (nomark _)) (pss_one (ps_ret (pe_cl G__law_inner hr (by omega) pasE (pa_cons (pv 0) (pa_cons (pv 1) pa_nil))))) pss_nil)
      (pss_cons (ps_if (pt_cmpR op_eq (pv 2) pe_str (nomark _)) (pss_one (ps_ret (pe_cl G__law_number hr (by omega) pasE (pa_cons (pv 0) (pa_cons (pe_op op_add (pv 1) pe_int) (pa_cons pe_bl (pa_cons pe_int pa_nil))))))) pss_nil)
      (pss_cons (ps_if (pt_cmpR op_in_seq (pv 2) (pe_lst (pa_cons pe_str (pa_cons pe_str pa_nil))) (by rfl)) (pss_one (ps_ret (pe_cl G__law_inner hr (by omega) pasE (pa_cons (pv 0) (pa_cons (pe_cl G__law_named hr (by omega) pasE (pa_cons (pv 0) (pa_cons (pe_op op_add (pv 1) pe_int) pa_nil))) pa_nil))))) pss_nil)
      (pss_cons (ps_if (pt_cmpR op_eq (pv 2) pe_str (nomark _)) (pss_cons (ps_set (i := 3) sc__law_atom.nd rfl (Or.inl rfl) (pe_cl G__law_named hr (by omega) pasE (pa_cons (pv 0) (pa_cons (pe_op op_add (pv 1) pe_int) pa_nil))))
      (pss_cons (ps_if (pt_cmpR op_lt (pv 3) pe_int (nomark _)) (pss_one (ps_ret (pe_un un_neg pe_int))) pss_nil)
      (pss_cons (ps_set (i := 3) sc__law_atom.nd rfl (Or.inl rfl) (pe_cl G__law_number hr (by omega) pasE (pa_cons (pv 0) (pa_cons (pv 3) (pa_cons pe_bl (pa_cons pe_int pa_nil))))))
      (pss_cons (ps_if (PW.pt (pw_or (pt_cmpR op_lt (pv 3) pe_int (nomark _)) (pw_or1 (pt_cmpR op_eq (pe_ix ix_list (pv 0) (pe_op op_sub (pv 3) pe_int) (fun _ _ => rfl)) pe_str (nomark _))))) (pss_one (ps_ret (pe_un un_neg pe_int))) pss_nil)
      (pss_one (ps_ret (pe_cl G__law_inner hr (by omega) pasE (pa_cons (pv 0) (pa_cons (pv 3) pa_nil))))))))) pss_nil)
      (pss_cons (ps_if (pt_cmpR op_in_seq (pv 2) (pe_lst (pa_cons pe_str (pa_cons pe_str pa_nil))) (by rfl)) (pss_cons (ps_if (pt_not (pt_val (pe_cl G__law_is hr (by omega) pasE (pa_cons (pv 0) (pa_cons (pe_op op_add (pv 1) pe_int) (pa_cons pe_str pa_nil)))))) (pss_one (ps_ret (pe_un un_neg pe_int))) pss_nil)
      (pss_one (ps_ret (pe_cl G__law_two hr (by omega) pasE (pa_cons (pv 0) (pa_cons (pe_op op_add (pv 1) pe_int) pa_nil)))))) pss_nil)
      (pss_cons (ps_if (pt_cmpR op_eq (pv 2) pe_str (nomark _)) (pss_cons (ps_if (pt_not (pt_val (pe_cl G__law_is hr (by omega) pasE (pa_cons (pv 0) (pa_cons (pe_op op_add (pv 1) pe_int) (pa_cons pe_str pa_nil)))))) (pss_one (ps_ret (pe_un un_neg pe_int))) pss_nil)
      (pss_cons (ps_set (i := 3) sc__law_atom.nd rfl (Or.inl rfl) (pe_cl G__law_c hr (by omega) pasE (pa_cons (pv 0) (pa_cons (pe_op op_add (pv 1) pe_int) pa_nil))))
      (pss_cons (ps_if (pt_not (pt_val (pe_cl G__law_is hr (by omega) pasE (pa_cons (pv 0) (pa_cons (pv 3) (pa_cons pe_str pa_nil)))))) (pss_one (ps_ret (pe_un un_neg pe_int))) pss_nil)
      (pss_one (ps_ret (pe_cl G__law_two hr (by omega) pasE (pa_cons (pv 0) (pa_cons (pe_op op_add (pv 3) pe_int) pa_nil)))))))) pss_nil)
      (pss_one (ps_ret (pe_cl G__law_named hr (by omega) pasE (pa_cons (pv 0) (pa_cons (pv 1) pa_nil))))))))))))), ?_⟩
  obtain ⟨a, row, n, g, rfl, gr, hn, hg, h⟩ := h
  cases g with
  | zero => exact absurd rfl h.nt
  | succ g =>
  change EW row H Q (wstep (W g) .atom (row.drop n)) at h
  refine ⟨_, rfl, r_len (K := K) rfl gr ⟨_, _, rfl, rfl, _, rfl, ?_⟩⟩
  refine ite2 (fun c => ?_) (fun c => ?_)
  · have c' : (row.length : Int) ≤ (n : Int) := of_decide_eq_true c
    rw [List.drop_eq_nil_of_le (by omega)] at h
    exact ⟨_, rfl, h.no⟩
  have c1 : ¬ (row.length : Int) ≤ (n : Int) := of_decide_eq_false (Bool.eq_false_iff.mpr c)
  obtain ⟨x, r, ed, es, er⟩ := drop_cons (row := row) (n := n) (by omega)
  rw [ed, wstep_atom] at h
  refine r_row rfl rfl gr es ?_
  refine r_eq2 rfl (fun e => ?_) (fun n1 => ?_)
  · rw [if_pos e, ← ed] at h
    exact ⟨_, rfl, _, rfl, .inl ⟨a, row, n, g, rfl, gr, hn, by omega, h⟩⟩
  rw [if_neg n1] at h
  refine r_eq2 rfl (fun e => ?_) (fun n2 => ?_)
  · rw [if_pos e, ← er] at h
    refine c_num (m := n + 1) (most := 1000000) gr rfl (fun Q q => ⟨_, rfl, _, _, rfl, rfl, q⟩) rfl (by omega) (by omega) (End.sub h num_A.1 num_A.2 (fun m hm H1 s1 h => h.put hm) (fun H1 s1 q => q))
  rw [if_neg n2] at h
  refine ⟨_, rfl, by show 2 ≤ sizeLine; decide, fun b nb => ⟨b, _, rfl, seq_lst upd_same, rfl, rfl, _, rfl, ?_⟩⟩
  have s2 := same_upd (o := .lst [.str "next", .str "prev"]) nb
  have gr := gr.same s2
  have h := h.same s2
  refine ite2 (fun c => ?_) (fun c => ?_)
  · have c' : x ∈ (["next", "prev"] : List Str) := inL c
    rw [if_pos (by simpa using c'), ← er] at h
    refine ⟨_, rfl, ?_⟩
    refine c_named (c := 1) gr rfl rfl rfl (by omega) (End.sub h nam_L.1 nam_L.2 (fun m hm H1 s1 h => ?_) (fun H1 s1 q => ?_))
    · exact .inl ⟨a, row, m, g, rfl, gr.same s1, hm, by omega, h⟩
    · exact .inr ⟨a, row, rfl, gr.same s1, q⟩
  have c' : x ∉ (["next", "prev"] : List Str) := ninL c
  rw [if_neg (fun z => c' (by simpa using z))] at h
  refine r_eq2 rfl (fun e => ?_) (fun n4 => ?_)
  · rw [if_pos e, ← er] at h
    refine c_named (c := 1) gr rfl rfl rfl (by omega) (End.sub (k := fun r => nums r fun n r => if n = 0 ∨ n > 6 ∨ n < -6 then .bad else W g .inner r) h nam_L.1 nam_L.2 (fun m hm H1 s1 h => ?_) (fun H1 s1 q => ?_))
    · have gr := gr.same s1
      refine lt1 rfl (fun c => absurd c (by omega)) (fun _ => ?_)
      refine c_num (m := m) (most := 6) gr rfl (fun Q q => ⟨_, rfl, q⟩) rfl hm (by omega) ⟨fun e H2 s2 => ?_, fun m2 hm2 e H2 s2 => ?_⟩
      · have q := h.bad (num_B.1 e) H2 s2
        exact ⟨_, rfl, _, _, rfl, rfl, _, rfl, iteT ⟨_, rfl, q⟩⟩
      · obtain ⟨p, t, v, e1, e2, e3⟩ := num_B.2 _ e
        obtain ⟨l1, l2⟩ := last_tok hm2 e1
        have gr := gr.same s2
        have h := (h.same s2).eq e3
        refine ⟨_, rfl, _, _, rfl, rfl, _, rfl, ?_⟩
        rw [decide_eq_false (show ¬ (m2 : Int) < 0 by omega)]
        refine iteF ⟨_, rfl, _, rfl, _, _, rfl, rfl, a, _, ((m2 - 1 : Nat) : Int), .str t, rfl, ?_, SqL.of gr.at_, atI_nat (by rw [List.getElem?_map, l2]; rfl), rfl, _, rfl, ?_⟩
        · show V.int ((m2 : Int) - 1) = _
          rw [show (m2 : Int) - 1 = ((m2 - 1 : Nat) : Int) by omega]
        refine ite2 (fun c => ?_) (fun c => ?_)
        · have c' : t = "0" := V.str.inj (of_decide_eq_true c)
          rw [if_pos ((dig0 e2).mp c')] at h
          exact ⟨_, rfl, h.no⟩
        · have c' := neV c
          rw [if_neg (fun z => c' ((dig0 e2).mpr z))] at h
          exact ⟨_, rfl, _, rfl, .inl ⟨a, row, m2, g, rfl, gr, hm2, by omega, h⟩⟩
    · refine lt1 rfl (fun c => ⟨_, rfl, q⟩) (fun c => absurd (show (-1 : Int) < 0 by decide) c)
  rw [if_neg n4] at h
  refine ⟨_, rfl, by show 2 ≤ sizeLine; decide, fun b nb => ⟨b, _, rfl, seq_lst upd_same, rfl, rfl, _, rfl, ?_⟩⟩
  have s3 := same_upd (o := .lst [.str "later", .str "earlier"]) nb
  have gr := gr.same s3
  have h := h.same s3
  refine ite2 (fun c => ?_) (fun c => ?_)
  · have c' : x ∈ (["later", "earlier"] : List Str) := inL c
    rw [if_pos (by simpa using c'), ← er] at h
    refine c_is1 gr rfl rfl ⟨_, rfl, ?_⟩
    refine ite2 (fun c => ?_) (fun c => ?_)
    · refine ⟨_, rfl, ?_⟩
      rw [exp_mis (is_mis (by simpa using c))] at h
      exact h.no
    obtain ⟨e, hn1⟩ := is_hit (row := row) (m := n + 1) (w := "(") (by simpa using c)
    rw [exp_hit e] at h
    exact c_w1 (c := 2) gr rfl rfl rfl (by omega) (by omega) h
  have c' : x ∉ (["later", "earlier"] : List Str) := ninL c
  rw [if_neg (fun z => c' (by simpa using z))] at h
  refine r_eq2 rfl (fun e => ?_) (fun n6 => ?_)
  · rw [if_pos e, ← er] at h
    refine c_is1 gr rfl rfl ⟨_, rfl, ?_⟩
    refine ite2 (fun c => ?_) (fun c => ?_)
    · refine ⟨_, rfl, ?_⟩
      rw [exp_mis (is_mis (by simpa using c))] at h
      exact h.no
    obtain ⟨e, hn1⟩ := is_hit (row := row) (m := n + 1) (w := "(") (by simpa using c)
    rw [exp_hit e] at h
    refine c_w1 (c := 2) gr rfl rfl rfl (by omega) (by omega) (h.sub (fun m hm H1 s1 h => ?_) (fun H1 s1 q => ?_))
    · have gr := gr.same s1
      refine c_is gr rfl rfl ⟨_, rfl, ?_⟩
      refine ite2 (fun c => ?_) (fun c => ?_)
      · refine ⟨_, rfl, ?_⟩
        rw [exp_mis (is_mis (by simpa using c))] at h
        exact h.no
      obtain ⟨e, hn2⟩ := is_hit (row := row) (m := m) (w := ",") (by simpa using c)
      rw [exp_hit e] at h
      exact c_w1 (c := 1) gr rfl rfl rfl (by omega) (by omega) h
    · refine c_is0 (gr.same s1) rfl rfl ⟨_, rfl, ?_⟩
      exact iteT ⟨_, rfl, q⟩
  rw [if_neg n6] at h
  refine ⟨_, rfl, _, rfl, a, row, n, rfl, gr, hn, ?_⟩
  rw [ed]
  refine ⟨fun e H1 s1 => h.bad (if_neg fun z => ?_) H1 s1, fun m hm e H1 s1 => h.ok [] _ m ?_ hm rfl H1 s1⟩
  · have : namL (x :: r) = some r := if_pos z
    rw [this] at e; cases e
  · by_cases z : isName x = true
    · have : namL (x :: r) = some r := if_pos z
      rw [this] at e
      rw [if_pos z, Option.some.inj e]
    · have : namL (x :: r) = none := if_neg z
      rw [this] at e; cases e
structure Wg (P : Program) (w : World) (K : PySem.W.Frag) (mg : Str → Option Value) (base : Heap) (f n : Nat) : Prop where
  t : Cl P w K mg base n "_law_t" P__law_t (spW f .t)
  inner : Cl P w K mg base n "_law_inner" P__law_inner (spWi f)
  two : Cl P w K mg base n "_law_two" P__law_two (spW f .two)
  atom : Cl P w K mg base n "_law_atom" P__law_atom (spW f .atom)
  unit : Cl P w K mg base n "_law_unit" P__law_unit (spW f .unit)
  c : Cl P w K mg base n "_law_c" P__law_c (spW f .c)
theorem no_w {wd : Wd} {vs : List V} {H : Hp} {Q : VK} {E : XK} (h : spW 0 wd vs H Q E) : False := by
  obtain ⟨a, row, n, g, _, _, _, hg, h⟩ := h
  obtain rfl : g = 0 := by omega
  exact h.nt rfl
theorem w_inner0 (T : Tp w K mg) : Cl P w K mg base 4 "_law_inner" P__law_inner (spWi 0) := by
  have G__law_is := ok__law_is (P := P) (base := base) T
  have G__law_t : Cl P w K mg base 3 "_law_t" P__law_t (spW 0 .t) := cl_of (k := 2) T.f__law_t T.g__law_t sc__law_t (fun _ F => b__law_t F) len_w (fun cdv A outer s H vs Q E hr h => (no_w h).elim)
  refine cl_of T.f__law_inner T.g__law_inner sc__law_inner (fun _ F => b__law_inner F) (fun vs H Q E h => ?_) (fun cdv A outer s H vs Q E hr h => ?_)
  · rcases h with h | h
    · exact len_w _ _ _ _ h
    · obtain ⟨a, row, rfl, _⟩ := h
      rfl
  refine ⟨_, (pss_cons (ps_if (pt_not (pt_val (pe_cl G__law_is hr (by omega) pasE (pa_cons (pv 0) (pa_cons (pv 1) (pa_cons pe_str pa_nil)))))) (pss_one (ps_ret (pe_un un_neg pe_int))) pss_nil)
      (pss_cons (ps_set (i := 2) sc__law_inner.nd rfl (Or.inl rfl) (pe_cl G__law_t hr (by omega) pasE (pa_cons (pv 0) (pa_cons (pe_op op_add (pv 1) pe_int) pa_nil))))
      (pss_cons (ps_if (pt_not (pt_val (pe_cl G__law_is hr (by omega) pasE (pa_cons (pv 0) (pa_cons (pv 2) (pa_cons pe_str pa_nil)))))) (pss_one (ps_ret (pe_un un_neg pe_int))) pss_nil)
      (pss_one (ps_ret (pe_op op_add (pv 2) pe_int)))))), ?_⟩
  rcases h with h | ⟨a, row, rfl, gr, q⟩
  · exact (no_w h).elim
  · refine c_is0 gr rfl rfl ⟨_, rfl, ?_⟩
    exact iteT ⟨_, rfl, q⟩
theorem walks (T : Tp w K mg) : ∀ f : Nat, Wg P w K mg base f (f + 4)
  | 0 => ⟨cl_of (k := 3) T.f__law_t T.g__law_t sc__law_t (fun _ F => b__law_t F) len_w (fun cdv A outer s H vs Q E hr h => (no_w h).elim), w_inner0 T,
      cl_of (k := 3) T.f__law_two T.g__law_two sc__law_two (fun _ F => b__law_two F) len_w (fun cdv A outer s H vs Q E hr h => (no_w h).elim), cl_of (k := 3) T.f__law_atom T.g__law_atom sc__law_atom (fun _ F => b__law_atom F) len_w (fun cdv A outer s H vs Q E hr h => (no_w h).elim),
      cl_of (k := 3) T.f__law_unit T.g__law_unit sc__law_unit (fun _ F => b__law_unit F) len_w (fun cdv A outer s H vs Q E hr h => (no_w h).elim), cl_of (k := 3) T.f__law_c T.g__law_c sc__law_c (fun _ F => b__law_c F) len_w (fun cdv A outer s H vs Q E hr h => (no_w h).elim)⟩
  | f + 1 => by
    have g := walks T f
    exact ⟨w_t T (by omega) g.atom, w_inner T (by omega) g.t, w_two T (by omega) g.t, w_atom T (by omega) g.inner g.two g.c, w_unit T (by omega) g.unit g.inner g.c g.t, w_c T (by omega) g.unit⟩
end
end KT

namespace KT
open PySem PySem.Spec
open PyProof.Rows L2 KM
/-! ### isinstance of a caught exception that has a dict -/
def rIsX (K : PySem.W.Frag) (cls : Value) (C a : Addr) (d : Option Addr) : List V → Hp → VK → Prop := fun xs H Q => cls = .ref C ∧ (∃ (dd : Addr) (fs : List (Str × V)), d = some dd ∧ H dd = some (.xd fs)) ∧
  ((∃ (D : Addr) (b : Bool), xs = [.ref a, .ref D] ∧ PySem.W.kitOne K (.ref C) (.ref D) = some b ∧ Q (.bl b) H) ∨
    ∃ (tp : Addr) (cs : List Addr) (b : Bool), xs = [.ref a, .ref tp] ∧ SqT K H tp (cs.map V.ref) ∧ PySem.W.kitAny K (.ref C) (cs.map Value.ref) = some b ∧ Q (.bl b) H)
theorem refs_vals : ∀ {cs : List Addr} {us : List Value}, Vals (cs.map V.ref) us → us = cs.map Value.ref
  | [], _, .nil => rfl
  | c :: r, _, .cons h k => by
    cases h
    rw [refs_vals k]
    rfl
theorem call_isX {X : Cx} {a C : Addr} {cls : Value} {oe : Obj} {d : Option Addr} {pn : List (Addr × Obj)} (G : ExcC X.K C) (hz : Zc cls d oe) (hf : ∃ vs, oe.data = .fields vs) : CallR (X.suite a ((a, oe) :: pn)) (.builtin "isinstance") (rIsX X.K cls C a d) := by
  rintro pins s σ H xs us Q I r ⟨rfl, ⟨dd, fs, rfl, hdd⟩, h⟩
  obtain ⟨at_, _⟩ := I.pin (a, oe) (List.mem_append.mpr (.inl List.mem_cons_self))
  obtain ⟨vs, hv⟩ := hf
  obtain ⟨mA, hns, _⟩ := (show ObjOk X.prog X.w H s.heap dd (.xd fs) from I.hok dd _ hdd)
  obtain ⟨od, hod, _⟩ := lookIn_ns hns
  have inst : PySem.W.InstAt s.heap a oe C (some od) := ⟨at_, hz.1, by unfold PySem.W.notCls; rw [hv], by rw [hz.2]; exact hod⟩
  have kx := PySem.W.kitx_exc (K := X.K) (x := a) (C := C) (ox := oe) (od := some od) (by obtain ⟨cd, hc, _⟩ := PySem.W.any_some G.hd; rw [hc]; rfl) G.hg G.hk G.hs G.ha G.hn G.ht G.hm
  rcases h with ⟨D, b, rfl, e, q⟩ | ⟨tp, cs, b, rfl, hq, e, q⟩
  · obtain ⟨u1, u2, rfl, r1, r2⟩ := vals2 r
    cases r1
    cases r2
    exact PySem.W.kia_one kx I.kIn inst e (fun z => nomatch z) fun tk => ⟨.bl b, H, I.kept (t' := tk) fun _ _ z => z, rfl, q⟩
  · obtain ⟨u1, u2, rfl, r1, r2⟩ := vals2 r
    cases r1
    cases r2
    obtain ⟨its, rv, ⟨o, ho, hc, n, hd⟩, _⟩ := I.tuple hq
    obtain rfl := refs_vals rv
    obtain ⟨oc, odi, oda, osl⟩ := o
    dsimp only at hc hd
    subst hc
    subst hd
    exact PySem.W.kia_tup kx I.kIn inst ho e (fun z => nomatch z) fun tk => ⟨.bl b, H, I.kept (t' := tk) fun _ _ z => z, rfl, q⟩
/-! ### try with two clauses: the first keeps the exception under a name, the second does not; nothing else comes out of the body -/
def wTwo (K : PySem.W.Frag) (c1 : Value) (i : Nat) (t1 : Addr → Value → Option Addr → TS) (c2 : Value) (t2 : Addr → Value → Option Addr → TS) (D : Ends) : WX := fun cls d σ H =>
  (PySem.W.exmOne K cls c1 = some true ∧ ∀ a, H a = none → t1 a cls d ⟨fun τ G => D.nx (τ.set i none) G, D.rt, fun τ G => D.bk (τ.set i none) G, fun τ G => D.ct (τ.set i none) G⟩ (σ.set i (some (.ref a))) H) ∨
  (PySem.W.exmOne K cls c1 = some false ∧ PySem.W.exmOne K cls c2 = some true ∧ ∀ a, H a = none → t2 a cls d D σ H)
theorem ps_try2 {X : Cx} {x y n : Str} {c1 c2 : Value} {i : Nat} {body s1 s2 : List Stmt} {b1 b2 : Stmt} {xp yp p1 p2 pos : Pos} {tb : WX → TS} {t1 t2 : Addr → Value → Option Addr → TS}
    (stk : X.stack = X.env :: X.outer) (fr : X.env.frame = some X.env.locals) (nd : X.N.Nodup) (ix : X.N[i]? = some n) (kl : X.env.kindOf n = some .local) (n1 : Names X x c1) (n2 : Names X y c2)
    (hb : ∀ (W : WX) (pn : List (Addr × Obj)) (xe : Value → Shared → Prop), Takes (X.tr pn xe) W → PassesOwn (model X.prog X.w) X.A X.env xe → PSs (X.tr pn xe) body (tb W))
    (h1 : ∀ (a : Addr) (o : Obj) (cls : Value) (d : Option Addr) (pn : List (Addr × Obj)), Zc cls d o → (∃ vs, o.data = .fields vs) → PSs (X.suite a ((a, o) :: pn)) (b1 :: s1) (t1 a cls d))
    (h2 : ∀ (a : Addr) (o : Obj) (cls : Value) (d : Option Addr) (pn : List (Addr × Obj)), Zc cls d o → (∃ vs, o.data = .fields vs) → PSs (X.suite a ((a, o) :: pn)) (b2 :: s2) (t2 a cls d)) :
    PS X (.Try body [.ExceptHandler (some (.Name x xp)) (some n) (b1 :: s1) p1, .ExceptHandler (some (.Name y yp)) none (b2 :: s2) p2] [] [] pos)
      (fun D σ H => tb (wTwo X.K c1 i t1 c2 t2 D) D σ H) := by
  constructor
  intro pins s σ H D I want
  have good := I.ok
  have frames : X.A.frames = some (X.env :: X.outer) := by rw [good.frames, stk]
  have lN : Loc X.env.scope n := .inl kl
  refine wpAny_Try_except (wpAny_mono ((hb (wTwo X.K c1 i t1 c2 t2 D) (X.pn ++ pins) (fun e u0 => wpAny (model X.prog X.w) X.A (noteFrame e X.env)
    (fun _ u1 => wpAny (model X.prog X.w) X.A (setFlight e none) (fun _ u2 => wpAny (model X.prog X.w) X.A
      (handleBy e X.env [.ExceptHandler (some (.Name x xp)) (some n) (b1 :: s1) p1, .ExceptHandler (some (.Name y yp)) none (b2 :: s2) p2])
        (SP X pins D) X.xe u2) X.xe u1) X.xe u0) ?_ PassesOwn.looking).run [] s σ H D (I.toTry _) want) ?_ fun _ _ z => z)
  · rintro e u0 ⟨a, B, sI, pq, τ, G, cls, d, rfl, J0, fresh, ups, sky, na, os, ag, w⟩
    have J : Inv X pins τ G sI := J0.ofTry good
    rw [stk] at sky
    show wpAny _ X.A (noteFrame (.ref a) X.env) _ _ _
    refine Sky.land Zc.steady frames fr sky fun g3 f3 up3 => ?_
    have J3 := J.landed (s' := { u0 with heap := g3 }) fresh f3.1 (ups.trans up3) os ag
    obtain ⟨o3, vs3, at3, z3, d3⟩ := f3.there
    have outF : a ∉ frs (X.env :: X.outer) := fun hm => by
      obtain ⟨_, o, at_, no⟩ := f3.2.2.1.mem hm
      rw [at3] at at_
      cases at_
      exact no _ d3
    have ne1 : a ≠ X.env.locals := fun z => outF (List.mem_filterMap.mpr ⟨X.env, List.mem_cons_self, by rw [fr, z]⟩)
    have ne2 : a ∉ X.fs := fun hm => by
      obtain ⟨v, hv, q⟩ := List.mem_filterMap.mp hm
      exact outF (List.mem_filterMap.mpr ⟨v, List.mem_cons_of_mem _ hv, q⟩)
    have S3 := J3.suite at3 d3 na ne1 ne2
    have look : PySem.W.Looks (model X.prog X.w) g3 (typeOf (.ref a)) cls := fun A Q E s k q => wpAny_typeOf_ref (k _ _ at3) (by rw [z3.1]; exact q)
    have name : ∀ {z : Str} {c : Value} {zp : Pos} {Q E : Value → Shared → Prop}, Names X z c → Q c { u0 with heap := g3 } →
        wpAny (model X.prog X.w) (X.A.mark (some (.ref a))) (eval (.Name z zp) X.env) Q E { u0 with heap := g3 } := fun {z c zp Q E} nz q => by
      obtain ⟨g1, g2, g3 | ⟨g3, g4, g5⟩⟩ := nz
      · exact ld_glob (X := X.suite a ((a, o3) :: (X.pn ++ pins))) S3 g1 g3 q g2
      · exact ld_blt (X := X.suite a ((a, o3) :: (X.pn ++ pins))) S3 g1 g3 g4 q g5 g2
    refine wpAny_handleBy_cons (codeAny_handlers_test ?_) (by intro q; cases q)
    rcases w with ⟨e1, w⟩ | ⟨e1, e2, w⟩
    · -- the first clause
      refine name n1 ((PySem.W.exm_one (M := model X.prog X.w) J3.kIn look e1).here ?_)
      refine codeAny_handlers_suite_as (HandSPX.lands_againZ f3 fun g4 f4 up4 => ?_)
      have J4 := J.landed (s' := { u0 with heap := g4 }) fresh f4.1 ((ups.trans up3).trans up4) os ag
      obtain ⟨o4, vs4, at4, z4, d4⟩ := f4.there
      refine store_ok (X := X.suite a ((a, o4) :: (X.pn ++ pins))) (v := .ref a) (J4.suite at4 d4 na ne1 ne2) nd ix lN rfl (fun u5 S5 => ?_) (.inr kl)
      refine wpAny_mono ((h1 a o4 cls d (X.pn ++ pins) z4 ⟨_, d4⟩).run [] u5 _ G _ S5 (w a na)) (fun fl u6 got => ?_) fun _ _ z => z.elim
      have gone : ∀ {τ6 : L2.St} {G6 : Hp} {Q : Shared → Prop}, Inv (X.suite a ((a, o4) :: (X.pn ++ pins))) [] τ6 G6 u6 → (∀ u7, Inv X pins (τ6.set i none) G6 u7 → Q u7) →
          wpAny (model X.prog X.w) X.A (do bindName X.env n .none; unbindBehindTheSuite X.env n p1) (fun _ u7 => Q u7) X.xe u6 := fun S6 hq => gone_ok (S6.unsuite good) nd ix kl hq
      cases fl with
      | ret u =>
        obtain ⟨v6, τ6, G6, S6, r6, q6⟩ := got
        exact gone S6 fun u7 J7 => ⟨_, _, _, J7, r6, q6⟩
      | next =>
        obtain ⟨τ6, G6, S6, q6⟩ := got
        exact gone S6 fun u7 J7 => ⟨_, _, J7, q6⟩
      | brk =>
        obtain ⟨τ6, G6, S6, q6⟩ := got
        exact gone S6 fun u7 J7 => ⟨_, _, J7, q6⟩
      | cont =>
        obtain ⟨τ6, G6, S6, q6⟩ := got
        exact gone S6 fun u7 J7 => ⟨_, _, J7, q6⟩
    · -- the second
      refine name n1 ((PySem.W.exm_one (M := model X.prog X.w) J3.kIn look e1).here ?_)
      show wpAny _ X.A (handleBy (.ref a) X.env [.ExceptHandler (some (.Name y yp)) none (b2 :: s2) p2]) _ _ _
      refine wpAny_handleBy_cons (codeAny_handlers_test ?_) (by intro q; cases q)
      refine name n2 ((PySem.W.exm_one (M := model X.prog X.w) J3.kIn look e2).here ?_)
      refine codeAny_handlers_suite (HandSPX.lands_againZ f3 fun g4 f4 up4 => ?_)
      have J4 := J.landed (s' := { u0 with heap := g4 }) fresh f4.1 ((ups.trans up3).trans up4) os ag
      obtain ⟨o4, vs4, at4, z4, d4⟩ := f4.there
      refine wpAny_mono ((h2 a o4 cls d (X.pn ++ pins) z4 ⟨_, d4⟩).run [] _ _ G _ (J4.suite at4 d4 na ne1 ne2) (w a na)) (fun fl u6 got => ?_) fun _ _ z => z.elim
      cases fl with
      | ret u =>
        obtain ⟨v6, τ6, G6, S6, r6, q6⟩ := got
        exact ⟨_, _, _, S6.unsuite good, r6, q6⟩
      | next =>
        obtain ⟨τ6, G6, S6, q6⟩ := got
        exact ⟨_, _, S6.unsuite good, q6⟩
      | brk =>
        obtain ⟨τ6, G6, S6, q6⟩ := got
        exact ⟨_, _, S6.unsuite good, q6⟩
      | cont =>
        obtain ⟨τ6, G6, S6, q6⟩ := got
        exact ⟨_, _, S6.unsuite good, q6⟩
  · intro fl u got
    cases fl with
    | ret v =>
      obtain ⟨z, τ, G, J, r, q⟩ := got
      exact ⟨z, τ, G, J.ofTry good, r, q⟩
    | next =>
      obtain ⟨τ, G, J, q⟩ := got
      exact wpAny_execs_nil ⟨τ, G, J.ofTry good, q⟩
    | brk =>
      obtain ⟨τ, G, J, q⟩ := got
      exact ⟨τ, G, J.ofTry good, q⟩
    | cont =>
      obtain ⟨τ, G, J, q⟩ := got
      exact ⟨τ, G, J.ofTry good, q⟩
end KT

namespace KT
open PySem PySem.Spec
open PyProof.Rows L2 KM
section
variable {X : Cx} {j k : Nat} {W : WX} {x : Str} {ps : List Str} {sp : Sp} {e : Expr} {es : List Expr} {t : TA} {p pos : Pos}
theorem pe_clS (c : Cl X.prog X.w X.K X.mg X.base k x ps sp) (hr : Room j X.A) (hk : k ≤ j) (tk : Takes X W) (ha : PA X (e :: es) t) (hg : Gl X x := by rfl)
    (hdb : (x == ("__debug__" : Str)) = false := by decide) (he : starEach (e :: es) X.env = (false, eval e X.env) :: starEach es X.env := by rfl) (hpl : (backTo pos (starEach es X.env)).any (·.1) = false := by rfl) :
    PE X (.Call (.Name x p) (e :: es) [] pos) (tCallS sp (WE W) t) := by
  obtain ⟨fd, F, b⟩ := c.fn
  exact pe_callS F (hr.mono hk) hg c.gm c.kp b (fun σ => passAt tk σ) ha hdb he hpl
theorem op_eqDK {K : PySem.W.Frag} (hu : X.A.units + 64 < cLine) (h : X.K = K := by rfl) : OpR X (compareOp .Eq) (rEqD K) := h ▸ op_eqD hu
end
theorem Tp.r_DiesError {w : World} {K : PySem.W.Frag} {mg : Str → Option Value} (T : Tp w K mg) : ∃ u, mg "DiesError" = some u ∧ RelV (.ref (He.ga K "DiesError")) u := ⟨_, T.g_DiesError, rfl⟩
theorem Tp.r_NotAllowed {w : World} {K : PySem.W.Frag} {mg : Str → Option Value} (T : Tp w K mg) : ∃ u, mg "NotAllowed" = some u ∧ RelV (.ref (He.ga K "NotAllowed")) u := ⟨_, T.g_NotAllowed, rfl⟩
theorem Tp.r_TooLarge {w : World} {K : PySem.W.Frag} {mg : Str → Option Value} (T : Tp w K mg) : ∃ u, mg "TooLarge" = some u ∧ RelV (.ref (He.ga K "TooLarge")) u := ⟨_, T.g_TooLarge, rfl⟩
theorem rd_node {f : Nat} {kd : Kd} {l : List Nat} {n : Nd} (h : rd f kd l = .node n) : ∃ row, tk l = some row ∧ P f kd 0 row = .ok [n] [] ∧ size n ≤ 400 ∧ depth n ≤ 40 := by
  unfold rd at h
  cases e : tk l with
  | none => rw [e] at h; cases h
  | some row =>
    rw [e] at h
    dsimp only at h
    split at h
    · cases h
    · cases h
    · rename_i m e2
      split at h
      · rename_i c
        cases h
        exact ⟨row, rfl, e2, c.1, c.2⟩
      · cases h
    · cases h
theorem rd_again {kd : Kd} {b : Bool} {n : Nd} (hk : (kd = .term ∧ b = true) ∨ (kd = .cond ∧ b = false)) (h : wk b n) (h1 : size n ≤ 400) (h2 : depth n ≤ 40) : rd 640 kd (px n) = .node n := by
  have hn : nd n ≤ 560 := by unfold nd; omega
  have ep : P 640 kd 0 (pt n) = .ok [n] [] := by
    rcases hk with ⟨rfl, rfl⟩ | ⟨rfl, rfl⟩
    · have := tm_end (rt n) h (f := 640) (lv := 0) (X := []) (by omega) (by omega) ⟨id, id⟩
      rw [List.append_nil] at this
      exact this
    · have := co_end (rt n) h (f := 640) (lv := 0) (X := []) (by omega) (by omega) ⟨id, id⟩ id id
      rw [List.append_nil] at this
      exact this
  unfold rd
  rw [tk_px h]
  dsimp only
  rw [ep]
  exact if_pos ⟨h1, h2⟩
theorem rd_wk {f : Nat} {kd : Kd} {b : Bool} {n : Nd} {row : List Str} (hk : (kd = .term ∧ b = true) ∨ (kd = .cond ∧ b = false)) (h : P f kd 0 row = .ok [n] []) : wk b n := by
  rcases hk with ⟨rfl, rfl⟩ | ⟨rfl, rfl⟩
  · obtain ⟨c, t, _, _, e, hw, _⟩ := P_post no1a f .term 0 row _ _ h
    injection e with e1 _
    rw [e1]; exact hw
  · obtain ⟨c, t, _, _, e, hw, _⟩ := P_post no1a f .cond 0 row _ _ h
    injection e with e1 _
    rw [e1]; exact hw
theorem B_px {n : Nd} {b : Bool} (h : wk b n) (h1 : size n ≤ 400) : (px n).length ≤ 24000 ∧ ∀ row, tk (px n) = some row → B row ≤ 1000000 := by
  have hl := px_len n b h
  refine ⟨by omega, fun row e => ?_⟩
  rw [tk_px h] at e
  obtain rfl := Option.some.inj e
  have hlen := (tk_len (tk_px h)).1
  unfold B
  rw [eqs_pt h, Nat.pow_zero, Nat.one_mul]
  omega
theorem name_ok {x : Str} (h : isName x = true) : PyData.strOk x = true := by
  unfold isName at h
  simp only [Bool.and_eq_true] at h
  have ha := h.2.2.2.2
  unfold PyData.strOk
  rw [← Array.all_toList]
  refine List.all_eq_true.mpr fun c hc => ?_
  have := List.all_eq_true.mp ha c hc
  simp only [al, sm, dg, Bool.or_eq_true, Bool.and_eq_true, decide_eq_true_eq] at this
  exact decide_eq_true (by omega)
theorem enc_lay (n : Nd) : ∀ b, wk b n → (enc n).canLay0 = true ∧ (enc n).depth ≤ depth n + 1 := by
  have w0 : PyData.strOk ("day" : Str) = true := by decide +kernel
  have w1 : PyData.strOk ("at" : Str) = true := by decide +kernel
  have w2 : PyData.strOk ("plus" : Str) = true := by decide +kernel
  have w3 : PyData.strOk ("nth" : Str) = true := by decide +kernel
  have w4 : PyData.strOk ("if" : Str) = true := by decide +kernel
  have w5 : PyData.strOk ("le" : Str) = true := by decide +kernel
  have w6 : PyData.strOk ("is" : Str) = true := by decide +kernel
  have w7 : PyData.strOk ("flag" : Str) = true := by decide +kernel
  have w8 : PyData.strOk ("yes" : Str) = true := by decide +kernel
  have w9 : PyData.strOk ("not" : Str) = true := by decide +kernel
  have w10 : PyData.strOk ("and" : Str) = true := by decide +kernel
  have w11 : PyData.strOk ("or" : Str) = true := by decide +kernel
  have wn : ∀ fw : Bool, PyData.strOk (if fw = true then ("next" : Str) else "prev") = true := by intro fw; cases fw <;> decide +kernel
  have wp : ∀ fw : Bool, PyData.strOk (if fw = true then ("later" : Str) else "earlier") = true := by intro fw; cases fw <;> decide +kernel
  induction n with
  | day x => intro b h; cases b; · exact h.elim
             have := name_ok (x := x) h
             simp only [enc, PyData.canLay0, PyData.canLayAll0, PyData.depth, PyData.depthAll, Bool.and_eq_true, Bool.and_true, depth, and_true, true_and, w0, this]; omega
  | num i => intro b h; simp only [enc, PyData.canLay0, PyData.canLayAll0, PyData.depth, PyData.depthAll, Bool.and_eq_true, Bool.and_true, depth, and_true, true_and, w1]; omega
  | plus t i ih => intro b h; cases b; · exact h.elim
                   obtain ⟨g1, g2⟩ := ih true h.1
                   simp only [enc, PyData.canLay0, PyData.canLayAll0, PyData.depth, PyData.depthAll, Bool.and_eq_true, Bool.and_true, depth, and_true, true_and, w2, g1]; omega
  | near fw k t ih => intro b h; cases b; · exact h.elim
                      obtain ⟨g1, g2⟩ := ih true h.2
                      have := name_ok h.1
                      simp only [enc, PyData.canLay0, PyData.canLayAll0, PyData.depth, PyData.depthAll, Bool.and_eq_true, Bool.and_true, depth, and_true, true_and, wn, g1, this]; omega
  | nth k t i ih => intro b h; cases b; · exact h.elim
                    obtain ⟨g1, g2⟩ := ih true h.2.1
                    have := name_ok h.1
                    simp only [enc, PyData.canLay0, PyData.canLayAll0, PyData.depth, PyData.depthAll, Bool.and_eq_true, Bool.and_true, depth, and_true, true_and, w3, g1, this]; omega
  | pick fw t u i1 i2 => intro b h; cases b; · exact h.elim
                         obtain ⟨g1, g2⟩ := i1 true h.1
                         obtain ⟨g3, g4⟩ := i2 true h.2
                         simp only [enc, PyData.canLay0, PyData.canLayAll0, PyData.depth, PyData.depthAll, Bool.and_eq_true, Bool.and_true, depth, and_true, true_and, wp, g1, g3]; omega
  | ite c t u i0 i1 i2 => intro b h; cases b; · exact h.elim
                          obtain ⟨g5, g6⟩ := i0 false h.1
                          obtain ⟨g1, g2⟩ := i1 true h.2.1
                          obtain ⟨g3, g4⟩ := i2 true h.2.2
                          simp only [enc, PyData.canLay0, PyData.canLayAll0, PyData.depth, PyData.depthAll, Bool.and_eq_true, Bool.and_true, depth, and_true, true_and, w4, g1, g3, g5]; omega
  | le t u i1 i2 => intro b h; cases b; rotate_left 1; · exact h.elim
                    obtain ⟨g1, g2⟩ := i1 true h.1
                    obtain ⟨g3, g4⟩ := i2 true h.2
                    simp only [enc, PyData.canLay0, PyData.canLayAll0, PyData.depth, PyData.depthAll, Bool.and_eq_true, Bool.and_true, depth, and_true, true_and, w5, g1, g3]; omega
  | isO k t ih => intro b h; cases b; rotate_left 1; · exact h.elim
                  obtain ⟨g1, g2⟩ := ih true h.2
                  have := name_ok h.1
                  simp only [enc, PyData.canLay0, PyData.canLayAll0, PyData.depth, PyData.depthAll, Bool.and_eq_true, Bool.and_true, depth, and_true, true_and, w6, g1, this]; omega
  | flag x => intro b h; cases b; rotate_left 1; · exact h.elim
              have := name_ok (x := x) h
              simp only [enc, PyData.canLay0, PyData.canLayAll0, PyData.depth, PyData.depthAll, Bool.and_eq_true, Bool.and_true, depth, and_true, true_and, w7, this]; omega
  | yes => intro b h; simp only [enc, PyData.canLay0, PyData.canLayAll0, PyData.depth, PyData.depthAll, Bool.and_eq_true, Bool.and_true, depth, and_true, true_and, w8]; omega
  | neg c ih => intro b h; cases b; rotate_left 1; · exact h.elim
                obtain ⟨g1, g2⟩ := ih false h
                simp only [enc, PyData.canLay0, PyData.canLayAll0, PyData.depth, PyData.depthAll, Bool.and_eq_true, Bool.and_true, depth, and_true, true_and, w9, g1]; omega
  | conj t u i1 i2 => intro b h; cases b; rotate_left 1; · exact h.elim
                      obtain ⟨g1, g2⟩ := i1 false h.1
                      obtain ⟨g3, g4⟩ := i2 false h.2
                      simp only [enc, PyData.canLay0, PyData.canLayAll0, PyData.depth, PyData.depthAll, Bool.and_eq_true, Bool.and_true, depth, and_true, true_and, w10, g1, g3]; omega
  | disj t u i1 i2 => intro b h; cases b; rotate_left 1; · exact h.elim
                      obtain ⟨g1, g2⟩ := i1 false h.1
                      obtain ⟨g3, g4⟩ := i2 false h.2
                      simp only [enc, PyData.canLay0, PyData.canLayAll0, PyData.depth, PyData.depthAll, Bool.and_eq_true, Bool.and_true, depth, and_true, true_and, w11, g1, g3]; omega
theorem shaped_enc {n : Nd} {b : Bool} (h : wk b n) (hd : depth n ≤ 40) : SeqAt.shaped (enc n) = true := by
  obtain ⟨h1, h2⟩ := enc_lay n b h
  unfold SeqAt.shaped
  rw [h1, decide_eq_true (by omega)]
  rfl
def toldS : Ans → Str
  | .out => ""
  | .form => "form"
  | .large => "large"
  | .node _ => "node"
def kdOf (k : Int) : Kd := if k = 0 then .term else .cond
def spTold (K : PySem.W.Frag) : Sp := fun vs H Q _ => ∃ (k : Int) (z : Str), vs = [.int k, .str z] ∧ z.length ≤ 1000000 ∧ (∀ row, tk (tl z) = some row → B row ≤ 1000000) ∧ rd 640 (kdOf k) (tl z) ≠ .out ∧ ∀ H', Same H H' → Q (.str (toldS (rd 640 (kdOf k) (tl z)))) H'
section
variable {P : Program} {w : World} {K : PySem.W.Frag} {mg : Str → Option Value} {base : Heap}
theorem ok__law_told (T : Tp w K mg) : Cl P w K mg base 222 "_law_told" P__law_told (spTold K) := by
  have G_read_term := ok_read_term (P := P) (base := base) T (f := 640) (k := 219) (by decide) (by decide)
  have G_read_condition := ok_read_condition (P := P) (base := base) T (f := 640) (k := 219) (by decide) (by decide)
  have G_term_text := (texts (P := P) (base := base) T 40).1
  have G_condition_text := (texts (P := P) (base := base) T 40).2
  refine cl_of T.f__law_told T.g__law_told sc__law_told (fun _ F => b__law_told F) (fun vs H Q E h => ?_) (fun cdv A outer s H vs Q E hr h => ?_)
  · obtain ⟨k, z, rfl, _⟩ := h
    rfl
  refine ⟨_, (pss_one (ps_try2 (i := 3) rfl rfl sc__law_told.nd rfl rfl ⟨rfl, by decide, .inl T.g_BadForm⟩ ⟨rfl, by decide, .inl T.g_TooLarge⟩ (fun W pn xe tk _ => (pss_cons (ps_if (pt_cmpR op_eq (pv 0) pe_int (nomark _)) (pss_cons (ps_set (i := 2) sc__law_told.nd rfl (Or.inl rfl) (pe_clS G_read_term hr (by omega) tk (pa_cons (pv 1) pa_nil)))
      (pss_one (ps_ret (pe_ix (ix_listK (K := K)) (pe_lst (pa_cons pe_str (pa_cons pe_str pa_nil))) (pe_callTy call_int1 rfl T.z_int (by decide +kernel) (pa_cons (pe_cmpR (op_eqDK (K := K) hr.units) (pe_clS G_read_term hr (by omega) tk (pa_cons (pe_clS G_term_text hr (by omega) tk (pa_cons (pv 2) pa_nil)) pa_nil)) (pv 2) (nomark _)) pa_nil)) (fun _ _ => rfl))))) pss_nil)
      (pss_cons (ps_set (i := 2) sc__law_told.nd rfl (Or.inl rfl) (pe_clS G_read_condition hr (by omega) tk (pa_cons (pv 1) pa_nil)))
      (pss_one (ps_ret (pe_ix (ix_listK (K := K)) (pe_lst (pa_cons pe_str (pa_cons pe_str pa_nil))) (pe_callTy call_int1 rfl T.z_int (by decide +kernel) (pa_cons (pe_cmpR (op_eqDK (K := K) hr.units) (pe_clS G_read_condition hr (by omega) tk (pa_cons (pe_clS G_condition_text hr (by omega) tk (pa_cons (pv 2) pa_nil)) pa_nil)) (pv 2) (nomark _)) pa_nil)) (fun _ _ => rfl))))))) (fun a o cls d pn hz hf => (pss_one (ps_ret (pe_ix (ix_listK (K := K)) (pe_lst (pa_cons pe_str (pa_cons pe_str pa_nil))) (pe_callTy call_int1 rfl T.z_int (by decide +kernel) (pa_cons (pe_and (pe_callB (call_isX T.exis hz hf) rfl T.z_isinstance (by decide +kernel) (pa_cons (pv 3) (pa_cons (C8.pe_gc rfl T.r_DiesError) pa_nil))) (pe_and (pe_not (pe_callB (call_isX T.exis hz hf) rfl T.z_isinstance (by decide +kernel) (pa_cons (pv 3) (pa_cons (pe_tup (pa_cons (C8.pe_gc rfl T.r_NotAllowed) (pa_cons (C8.pe_gc rfl T.r_TooLarge) pa_nil))) pa_nil)))) (pe_one (pe_cmpR op_eq (pe_xf T.xf T.bfLine hz hf (pv 3)) pe_int (nomark _))))) pa_nil)) (fun _ _ => rfl))))) (fun a o cls d pn hz hf => (pss_one (ps_ret pe_str))))), ?_⟩
  obtain ⟨k, z, rfl, hl, hB, hout, q⟩ := h
  refine eq1 rfl (fun c => ?_) (fun c => ?_)
  · refine seq_asg ?_
    have ek : kdOf k = .term := if_pos c
    rw [ek] at hout q
    refine ⟨_, rfl, z, rfl, hl, hB, ⟨hout, fun n en v H1 s1 dv => ?_, fun en d H1 s1 hd => ?_, fun en H1 s1 => ?_⟩⟩
    · obtain ⟨row, e1, e2, e3, e4⟩ := rd_node en
      have hw : wk true n := rd_wk (.inl ⟨rfl, rfl⟩) e2
      have hag := rd_again (.inl ⟨rfl, rfl⟩) hw e3 e4
      obtain ⟨l1, l2⟩ := B_px hw e3
      have hsh := shaped_enc hw e4
      rw [en] at q
      refine ⟨by show 2 ≤ sizeLine; decide, fun p np => ?_⟩
      have s2 := s1.trans (same_upd (o := .lst [.str "other", .str "node"]) np)
      refine ⟨_, rfl, v, n, rfl, Dp.same (same_upd np) dv, hw, e4, by omega, fun H3 s3 => ?_⟩
      refine ⟨sS (px n), rfl, by rw [sS_len]; omega, l2, ⟨(by rw [show tl (sS (px n)) = px n from rfl, hag]; intro e; cases e), fun m em v2 H4 s4 dv2 => ?_, fun em => ?_, fun em => ?_⟩⟩
      · rw [show tl (sS (px n)) = px n from rfl, hag] at em
        cases em
        have s34 := s3.trans s4
        refine ⟨_, rfl, enc n, enc n, dv2, Dp.same s34 (Dp.same (same_upd np) dv), hsh, hsh, ?_⟩
        rw [SeqAt.eqv_refl _ (SeqAt.canLay_of_shaped hsh)]
        refine .inr ⟨true, rfl, p, _, _, .str "node", rfl, rfl, SqL.of (s34 _ _ upd_same), atI_nat (j := 1) rfl, ?_⟩
        exact q _ (s2.trans s34)
      · rw [show tl (sS (px n)) = px n from rfl, hag] at em; cases em
      · rw [show tl (sS (px n)) = px n from rfl, hag] at em; cases em
    · rw [en] at q
      refine .inl ⟨T.exmBB, fun a na => ?_⟩
      refine ⟨by show 2 ≤ sizeLine; decide, fun p np => ?_⟩
      have s2 := s1.trans (same_upd (o := .lst [.str "other", .str "form"]) np)
      have hd2 := same_upd (o := .lst [.str "other", .str "form"]) np _ _ hd
      refine ⟨_, rfl, rfl, ⟨d, _, rfl, hd2⟩, .inl ⟨_, _, rfl, T.kitD, true, rfl, iteT ?_⟩⟩
      refine ⟨_, rfl, by show 2 ≤ sizeLine; decide, fun b nb => ?_⟩
      have s3' := same_upd (o := .tup [.ref (He.ga K "NotAllowed"), .ref (He.ga K "TooLarge")]) nb
      refine ⟨rfl, ⟨d, _, rfl, s3' _ _ hd2⟩, .inr ⟨b, [He.ga K "NotAllowed", He.ga K "TooLarge"], false, rfl, .inl (.inl upd_same), ?_, _, rfl, true, rfl, iteT ?_⟩⟩
      · show (match PySem.W.kitOne K (.ref (BF_ K)) (.ref (He.ga K "NotAllowed")) with | some true => some true | some false => (match PySem.W.kitOne K (.ref (BF_ K)) (.ref (He.ga K "TooLarge")) with | some true => some true | some false => some false | none => none) | none => none) = some false
        rw [T.kitN, T.kitT]
      refine ⟨_, rfl, rfl, rfl, d, _, .int 1, rfl, s3' _ _ hd2, by rw [List.lookup_cons, beq_self_eq_true], rfl, ?_⟩
      rw [show decide (V.int 1 = V.int 1) = true from decide_eq_true rfl]
      refine .inr ⟨true, rfl, p, _, _, .str "form", rfl, rfl, SqL.of (s3' _ _ upd_same), atI_nat (j := 1) rfl, ?_⟩
      exact q _ (s2.trans s3')
    · rw [en] at q
      exact .inr ⟨T.exmTB, T.exmTT, fun a na => q _ s1⟩
  · unfold tNext
    dsimp only
    refine seq_asg ?_
    have ek : kdOf k = .cond := if_neg c
    rw [ek] at hout q
    refine ⟨_, rfl, z, rfl, hl, hB, ⟨hout, fun n en v H1 s1 dv => ?_, fun en d H1 s1 hd => ?_, fun en H1 s1 => ?_⟩⟩
    · obtain ⟨row, e1, e2, e3, e4⟩ := rd_node en
      have hw : wk false n := rd_wk (.inr ⟨rfl, rfl⟩) e2
      have hag := rd_again (.inr ⟨rfl, rfl⟩) hw e3 e4
      obtain ⟨l1, l2⟩ := B_px hw e3
      have hsh := shaped_enc hw e4
      rw [en] at q
      refine ⟨by show 2 ≤ sizeLine; decide, fun p np => ?_⟩
      have s2 := s1.trans (same_upd (o := .lst [.str "other", .str "node"]) np)
      refine ⟨_, rfl, v, n, rfl, Dp.same (same_upd np) dv, hw, e4, by omega, fun H3 s3 => ?_⟩
      refine ⟨sS (px n), rfl, by rw [sS_len]; omega, l2, ⟨(by rw [show tl (sS (px n)) = px n from rfl, hag]; intro e; cases e), fun m em v2 H4 s4 dv2 => ?_, fun em => ?_, fun em => ?_⟩⟩
      · rw [show tl (sS (px n)) = px n from rfl, hag] at em
        cases em
        have s34 := s3.trans s4
        refine ⟨_, rfl, enc n, enc n, dv2, Dp.same s34 (Dp.same (same_upd np) dv), hsh, hsh, ?_⟩
        rw [SeqAt.eqv_refl _ (SeqAt.canLay_of_shaped hsh)]
        refine .inr ⟨true, rfl, p, _, _, .str "node", rfl, rfl, SqL.of (s34 _ _ upd_same), atI_nat (j := 1) rfl, ?_⟩
        exact q _ (s2.trans s34)
      · rw [show tl (sS (px n)) = px n from rfl, hag] at em; cases em
      · rw [show tl (sS (px n)) = px n from rfl, hag] at em; cases em
    · rw [en] at q
      refine .inl ⟨T.exmBB, fun a na => ?_⟩
      refine ⟨by show 2 ≤ sizeLine; decide, fun p np => ?_⟩
      have s2 := s1.trans (same_upd (o := .lst [.str "other", .str "form"]) np)
      have hd2 := same_upd (o := .lst [.str "other", .str "form"]) np _ _ hd
      refine ⟨_, rfl, rfl, ⟨d, _, rfl, hd2⟩, .inl ⟨_, _, rfl, T.kitD, true, rfl, iteT ?_⟩⟩
      refine ⟨_, rfl, by show 2 ≤ sizeLine; decide, fun b nb => ?_⟩
      have s3' := same_upd (o := .tup [.ref (He.ga K "NotAllowed"), .ref (He.ga K "TooLarge")]) nb
      refine ⟨rfl, ⟨d, _, rfl, s3' _ _ hd2⟩, .inr ⟨b, [He.ga K "NotAllowed", He.ga K "TooLarge"], false, rfl, .inl (.inl upd_same), ?_, _, rfl, true, rfl, iteT ?_⟩⟩
      · show (match PySem.W.kitOne K (.ref (BF_ K)) (.ref (He.ga K "NotAllowed")) with | some true => some true | some false => (match PySem.W.kitOne K (.ref (BF_ K)) (.ref (He.ga K "TooLarge")) with | some true => some true | some false => some false | none => none) | none => none) = some false
        rw [T.kitN, T.kitT]
      refine ⟨_, rfl, rfl, rfl, d, _, .int 1, rfl, s3' _ _ hd2, by rw [List.lookup_cons, beq_self_eq_true], rfl, ?_⟩
      rw [show decide (V.int 1 = V.int 1) = true from decide_eq_true rfl]
      refine .inr ⟨true, rfl, p, _, _, .str "form", rfl, rfl, SqL.of (s3' _ _ upd_same), atI_nat (j := 1) rfl, ?_⟩
      exact q _ (s2.trans s3')
    · rw [en] at q
      exact .inr ⟨T.exmTB, T.exmTT, fun a na => q _ s1⟩
end
end KT

namespace KT
open PySem PySem.Spec
open PyProof.Rows L2 KM
/-! ### a text some times over -/
def rpt (n : Nat) (a : Str) : Str := ⟨(List.replicate n a.cps).foldl (· ++ ·) #[]⟩
theorem op_mul_txt {X : Cx} : OpR X (binaryOp .Mult) (fun x y H Q => ∃ (a : Str) (n : Nat), x = .str a ∧ y = .int (n : Int) ∧ 2 ≤ n ∧ n ≤ 1000 ∧ 1 ≤ a.length ∧ a.length ≤ 100 ∧ (rpt n a).length ≤ sizeLine ∧ Q (.str (rpt n a)) H) := by
  rintro pins s σ H x y v u Q I rx ry ⟨a, n, rfl, rfl, h1, h2, h3, h4, h5, q⟩
  obtain ⟨t, rfl⟩ := rx
  obtain ⟨t', rfl⟩ := ry
  have n1 : ¬ ((n : Int) < 1) := by omega
  have n2 : ((n : Int) == 1 || a.length == 0) = false := by
    rw [Bool.or_eq_false_iff]
    exact ⟨beq_eq_false_iff_ne.mpr (by omega), beq_eq_false_iff_ne.mpr (by omega)⟩
  refine PySem.P.mul_str ?_ (fun _ _ => ?_) (fun _ _ => ?_) ?_
  · rw [decide_eq_false (by omega), decide_eq_false (by omega)]; rfl
  · have hd : (1000000 : Int) ≤ (2 ^ 63 - 1) / (n : Int) := by
      rw [Int.le_ediv_iff_mul_le (by omega)]
      omega
    omega
  · unfold PySem.Builtin.Str.tooLong
    have : (1000000 : Nat) < sizeLine := by decide
    have : a.length * (n : Int).toNat ≤ 100 * 1000 := Nat.mul_le_mul h4 (by omega)
    exact decide_eq_false (by omega)
  · rw [if_neg n1, n2, if_neg (by decide), Int.toNat_natCast]
    exact ⟨h5, ⟨.str (rpt n a), H, I.tok _, ⟨_, rfl⟩, q⟩⟩
/-! ### x.replace(y, z, 1) -/
def rp1 (x y z : Str) : Str := PySem.Builtin.Str.glued z (PySem.Builtin.Str.partsBetween x (PySem.Builtin.Str.occurrences x y 0 x.length 1) y.length)
open PySem.Builtin PySem.Builtin.Str in
theorem gives_rp1 (x y z : Str) (t u v q : Tok) (hc : (occurrences x y 0 x.length 1).isEmpty = false) (hy : (y.length == 0) = false) (h0 : (u == 0 || v == 0) = false) (huv : (u == v) = false) (hyz : (y == z) = false)
    (hl : tooLong (x.length + (occurrences x y 0 x.length 1).length * z.length) = false) : Gives («str.replace» ⟨[.str x t, .str y u, .str z v, .int 1 q], []⟩) (.str (rp1 x y z)) := by
  show Gives (do
    let limit ← countLimit "str.replace" (some (.int 1 q)) (x.length + 1)
    if ((occurrences x y 0 x.length limit).isEmpty || (y.length == 0 && z.length == 0)) = true then (do rule "str.replace.nothing"; ret (.str x t)) else
      (do let same ← isSame (.str y u) (.str z v)
          if same = true then (do rule "str.replace.old-is-new"; ret (.str x t)) else
          if tooLong (x.length + (occurrences x y 0 x.length limit).length * z.length) = true then unsupported "str.replace:memory" else
          retStr (glued z (partsBetween x (occurrences x y 0 x.length limit) y.length)))) _
  rw [countLimit_int "str.replace" 1 q (x.length + 1) (by decide), show (if (1 : Int) < 0 then x.length + 1 else Int.toNat 1) = 1 from rfl]
  show Gives (if ((occurrences x y 0 x.length 1).isEmpty || (y.length == 0 && z.length == 0)) = true then _ else _) _
  rw [hc, hy, Bool.false_and, Bool.or_false, if_neg Bool.false_ne_true, isSame_str_other y z u v h0 huv hyz, hl]
  exact .of_eq rfl
def tRp1 (to : TE) (y z : Str) : TE := fun σ H Q => to σ H fun v H1 => ∃ x, v = .str x ∧ (PySem.Builtin.Str.occurrences x y 0 x.length 1).isEmpty = false ∧ (y.length == 0) = false ∧ x.length + (PySem.Builtin.Str.occurrences x y 0 x.length 1).length * z.length ≤ 1000000 ∧ (rp1 x y z).length ≤ sizeLine ∧ Q (.str (rp1 x y z)) H1
theorem Call_m3 {prog : Program} {w : World} {A : Around} {E : Value → Shared → Prop} {s : Shared} {env : Env} {o e1 e2 e3 : Expr} {name : Str} {apos pos : Pos} {Q : Value → Shared → Prop}
    (hbase : attributeBase o name env (eval o env) = eval o env) (hs : starEach [e1, e2, e3] env = [(false, eval e1 env), (false, eval e2 env), (false, eval e3 env)]) (hline : (apos.endLine == pos.line) = true)
    (h : wpAny (model prog w) A (eval o env) (fun ov s1 => MethodOnS prog w A E name ov pos [(false, eval e1 env), (false, eval e2 env), (false, eval e3 env)] Q s1) E s) : wpAny (model prog w) A (eval (.Call (.Attribute o name apos) [e1, e2, e3] [] pos) env) Q E s := by
  refine wpAny_Call_method_lateS hbase (by rw [hs]; rfl) hline ?_
  rw [hs]; exact h
theorem pet_rp1 {X : Cx} {o : Expr} {to : TE} {y z : Str} {j k l : Nat} {c0 c1 c2 apos pos : Pos} (ho : PET X o to) (hyz : (y == z) = false := by decide)
    (hst : starEach [.Constant (.str y) j c0, .Constant (.str z) k c1, .Constant (.int 1) l c2] X.env = [(false, eval (.Constant (.str y) j c0) X.env), (false, eval (.Constant (.str z) k c1) X.env), (false, eval (.Constant (.int 1) l c2) X.env)] := by rfl)
    (hbase : attributeBase o "replace" X.env (eval o X.env) = eval o X.env := by rfl) (hline : (apos.endLine == pos.line) = true := by rfl) :
    PET X (.Call (.Attribute o "replace" apos) [.Constant (.str y) j c0, .Constant (.str z) k c1, .Constant (.int 1) l c2] [] pos) (tRp1 to y z) := by
  intro pins s σ H Q h0 I h
  refine Call_m3 hbase hst hline (wpAny_mono (PySem.wpAny_toks (ho pins s σ H _ h0 I h)) (fun v s1 q => ?_) fun _ _ z => z.2)
  obtain ⟨hk, v', H1, I1, r1, x, rfl, hc, hy, hb, hz, q⟩ := q
  obtain ⟨tx, rfl⟩ := r1
  refine ⟨"str", _, PySem.F.plainAttrs_str, PySem.F.slot_str_replace, PySem.F.type_str_replace, typeIs_str _ _ _, (fun _ e => nomatch e), Calls.callWith_builtin rfl (Calls.evalArgs_plain (Calls.spliced_cons ?_))⟩
  refine Calls.Constant_str (Calls.spliced_cons (Calls.Constant_str (Calls.spliced_cons (wpAny_Constant_int (Calls.spliced_nil ?_)))))
  have hl : PySem.Builtin.Str.tooLong (x.length + (PySem.Builtin.Str.occurrences x y 0 x.length 1).length * z.length) = false := by
    unfold PySem.Builtin.Str.tooLong
    have : (1000000 : Nat) < sizeLine := by decide
    exact decide_eq_false (by omega)
  refine call_gives F.slot_str_replace (typeIs_str _ _ _) F.entry_str_replace (F.args_str_replace_4 _ _ _ _)
    (gives_rp1 x y z _ _ _ _ hc hy (by
      rw [Bool.or_eq_false_iff]
      exact ⟨beq_eq_false_iff_ne.mpr (by show s1.toks ≠ 0; omega), beq_eq_false_iff_ne.mpr (by show s1.toks + 1 ≠ 0; omega)⟩) (beq_eq_false_iff_ne.mpr (by show s1.toks ≠ s1.toks + 1; omega)) hyz hl) ?_
  exact ⟨hz, ⟨.str (rp1 x y z), H1, I1.tok _, ⟨_, rfl⟩, q⟩⟩
theorem pet_of {X : Cx} {e : Expr} {te : TE} (h : PE X e te) : PET X e te := fun pins s σ H Q _ I q => h.run pins s σ H Q I q
/-- behind a whole number a token is out -/
theorem pa_int1 {X : Cx} {e : Expr} {te : TE} {i : Int} {j : Nat} {p : Pos} (he : PET X e te) (hs : starEach [.Constant (.int i) j p, e] X.env = [(false, eval (.Constant (.int i) j p) X.env), (false, eval e X.env)] := by rfl) :
    PA X [.Constant (.int i) j p, e] (tCons (tC (.int i)) (tCons te tNil)) := by
  refine ⟨fun pos pins s σ H Q I h => ?_⟩
  rw [hs]
  show wpAny _ _ (spliced [(false, eval (.Constant (.int i) j p) X.env), (false, eval e X.env)]) _ _ s
  refine Calls.spliced_cons (wpAny_Constant_int (Calls.spliced_cons ?_))
  refine thn (he pins { s with toks := s.toks + 1 } σ H _ (by show 1 ≤ s.toks + 1; omega) (I.tok _) h) fun v s1 ⟨x, H1, I1, r1, q1⟩ => ?_
  exact Calls.spliced_nil ⟨[.int i, x], H1, I1, .cons ⟨_, rfl⟩ (.cons r1 .nil), q1⟩
end KT

namespace KT
open PySem PySem.Spec
open PyProof.Rows L2 KM
/-! ### the tokens of the law's rows -/
def gtB (t : Str) : Bool := !(tl t).isEmpty && (match (tl t).head? with
  | some c => (!sm c || (tl t).all al) && (!dg c || (tl t).all dg)
  | none => true)
theorem gt_of {t : Str} (h : gtB t = true) : Gt t := by
  unfold gtB at h
  rw [Bool.and_eq_true] at h
  obtain ⟨h1, h2⟩ := h
  refine ⟨fun e => by rw [e] at h1; exact absurd h1 (by decide), fun c hc hs => ?_, fun c hc hs => ?_⟩
  · rw [hc] at h2
    simp only [hs, Bool.not_true, Bool.false_or, Bool.and_eq_true] at h2
    exact h2.1
  · rw [hc] at h2
    simp only [hs, Bool.not_true, Bool.false_or, Bool.and_eq_true] at h2
    exact h2.2
theorem all_take (p : Nat → Bool) : ∀ l : List Nat, (l.takeWhile p).all p = true
  | [] => rfl
  | c :: r => by
    rw [List.takeWhile_cons]
    split
    · rename_i h; rw [List.all_cons, h, all_take p r]; rfl
    · rfl
theorem len_cut (p : Nat → Bool) : ∀ l : List Nat, (l.takeWhile p).length + (l.dropWhile p).length = l.length
  | [] => rfl
  | c :: r => by
    rw [List.takeWhile_cons, List.dropWhile_cons]
    split
    · have := len_cut p r; simp only [List.length_cons]; omega
    · simp
def tlen (t : Str) : Nat := (tl t).length
theorem lk_all : ∀ (n : Nat) (l : List Nat), l.length ≤ n → (∀ t ∈ lk l, Gt t) ∧ wsum tlen (lk l) ≤ l.length := by
  intro n
  induction n with
  | zero =>
    intro l hl
    obtain rfl := List.length_eq_zero_iff.mp (Nat.le_zero.mp hl)
    exact ⟨fun t h => (by cases h), Nat.le_refl _⟩
  | succ n ih =>
    intro l hl
    cases l with
    | nil => exact ⟨fun t h => (by cases h), Nat.le_refl _⟩
    | cons c r =>
      rw [List.length_cons] at hl
      have put : ∀ (t : Str) (q : List Nat), Gt t → q.length + tlen t ≤ r.length + 1 → q.length ≤ n → (∀ u ∈ t :: lk q, Gt u) ∧ wsum tlen (t :: lk q) ≤ (c :: r).length := by
        intro t q g h1 h2
        obtain ⟨i1, i2⟩ := ih q h2
        refine ⟨fun u hu => ?_, ?_⟩
        · rcases List.mem_cons.mp hu with rfl | hu
          · exact g
          · exact i1 u hu
        · rw [wsum_cons, List.length_cons]; omega
      rw [lk_cons]
      have c1 := len_cut al r
      have c2 := len_cut dg r
      split
      · rename_i hs
        have hd : dg c = false := by
          cases e : dg c
          · rfl
          · rw [dg_sm e] at hs; cases hs
        refine put _ _ ⟨fun e => (by cases e), fun d hd' _ => ?_, fun d hd' hs' => ?_⟩ ?_ (by omega)
        · show (c :: r.takeWhile al).all al = true
          rw [List.all_cons, all_take, show al c = true from by unfold al; rw [hs]; rfl]; rfl
        · cases hd'; rw [hd] at hs'; cases hs'
        · show _ + (c :: r.takeWhile al).length ≤ _
          rw [List.length_cons]; omega
      split
      · rename_i hs hg
        refine put _ _ ⟨fun e => (by cases e), fun d hd' hs' => ?_, fun d hd' hs' => ?_⟩ ?_ (by omega)
        · cases hd'; exact absurd hs' hs
        · show (c :: r.takeWhile dg).all dg = true
          rw [List.all_cons, all_take, hg]; rfl
        · show _ + (c :: r.takeWhile dg).length ≤ _
          rw [List.length_cons]; omega
      split
      · rename_i hs hg h6
        obtain ⟨-, h⟩ := h6
        cases r with
        | nil => cases h
        | cons d q =>
          refine put _ _ (gt_of (by decide +kernel)) ?_ ?_
          · show q.length + 2 ≤ q.length + 1 + 1; omega
          · rw [List.length_cons] at hl; show q.length ≤ n; omega
      split
      · obtain ⟨i1, i2⟩ := ih r (by omega)
        exact ⟨i1, by rw [List.length_cons]; omega⟩
      · rename_i hs hg _ _
        refine put _ _ ⟨fun e => (by cases e), fun d hd' hs' => ?_, fun d hd' hs' => ?_⟩ ?_ (by omega)
        · cases hd'; exact absurd hs' hs
        · cases hd'; exact absurd hs' hg
        · show r.length + 1 ≤ _; omega
def menu : List Str := ["+", "-", "(", ")", ",", "<=", "<", "=", "[", "]", "?", "@", "a", "0", "12", "05", "not", "and", "or", "yes", "next", "is", "open", "if"]
def bads : List Str := ["A", "#", ".", ">", "a_b", "!", "&", "{", "1a", "$"]
theorem menu_ok : ∀ x ∈ menu, tkb x = true ∧ Gt x ∧ tlen x ≤ 4 := by
  have h : menu.all (fun x => tkb x && (gtB x && decide (tlen x ≤ 4))) = true := by decide +kernel
  intro x hx
  have := List.all_eq_true.mp h x hx
  simp only [Bool.and_eq_true, decide_eq_true_eq] at this
  exact ⟨this.1, gt_of this.2.1, this.2.2⟩
theorem bads_ok : ∀ x ∈ bads, (tk (tl x) = none ∨ tk (tl x) = some [("1a" : Str)]) ∧ tlen x ≤ 4 := by
  have h : bads.all (fun x => (decide (tk (tl x) = none) || decide (tk (tl x) = some [("1a" : Str)])) && decide (tlen x ≤ 4)) = true := by decide +kernel
  intro x hx
  have := List.all_eq_true.mp h x hx
  simp only [Bool.and_eq_true, Bool.or_eq_true, decide_eq_true_eq] at this
  exact this
theorem wsum_mem {g : Str → Nat} {t : Str} : ∀ {l : List Str}, t ∈ l → g t ≤ wsum g l
  | s :: r, h => by
    rw [wsum_cons]
    rcases List.mem_cons.mp h with rfl | h
    · omega
    · have := wsum_mem (g := g) h; omega
theorem wsum_congr {f g : Str → Nat} : ∀ {l : List Str}, (∀ t ∈ l, f t = g t) → wsum f l = wsum g l
  | [], _ => rfl
  | s :: r, h => by rw [wsum_cons, wsum_cons, h s (by simp), wsum_congr fun t ht => h t (List.mem_cons_of_mem _ ht)]
theorem wsum_le {f g : Str → Nat} : ∀ {l : List Str}, (∀ t ∈ l, f t ≤ g t) → wsum f l ≤ wsum g l
  | [], _ => Nat.le_refl _
  | s :: r, h => by
    have := wsum_le (f := f) (g := g) (l := r) fun t ht => h t (List.mem_cons_of_mem _ ht)
    have := h s (by simp)
    rw [wsum_cons, wsum_cons]; omega
theorem joinL_le : ∀ l : List Str, (TL.joinL [32] (l.map tl)).length ≤ wsum tlen l + l.length
  | [] => Nat.le_refl _
  | [t] => by
    show (tl t).length ≤ tlen t + 0 + 1
    unfold tlen; omega
  | t :: u :: r => by
    have := joinL_le (u :: r)
    show (tl t ++ ([32] ++ TL.joinL [32] ((u :: r).map tl))).length ≤ _
    rw [wsum_cons, List.length_append, List.length_append, List.length_cons (a := t)]
    have e : tlen t = (tl t).length := rfl
    have e1 : ([32] : List Nat).length = 1 := rfl
    omega
/-- a row of the law's round -/
structure Rnd (ts : List Str) : Prop where
  tb : ∀ t ∈ ts, tkb t = true
  gt : ∀ t ∈ ts, Gt t
  len : ts.length ≤ 2401
  sum : wsum tlen ts ≤ 4800
  ws : wts ts ≤ 175
  ac : aoc ts ≤ 14
  eq : eqs ts ≤ 1
theorem rnd {n : Nd} {b : Bool} {x : Str} (h : wk b n) (hd : depth n ≤ 4) (hx : x ∈ menu) (ch at_ : Nat) : Rnd (spoil ch at_ x (pt n)) ∧ Rnd (pt n) := by
  have hp : (px n).length ≤ 2400 := by
    have := px_len n b h
    have := size4 hd
    omega
  obtain ⟨m1, m2, m3⟩ := menu_ok x hx
  obtain ⟨l1, l2⟩ := lk_all _ (px n) (Nat.le_refl _)
  rw [lk_px h] at l1 l2
  have l3 := tk_all _ (px n) (pt n) (Nat.le_refl _) (tk_px h)
  have l4 := (tk_len (tk_px h)).1
  have w1 : wsum wtk (pt n) ≤ 169 := wts_pt h hd
  have w2 : wsum aok (pt n) ≤ 13 := aoc_pt h hd
  have w3 : wsum eqw (pt n) = 0 := eqs_pt h
  refine ⟨⟨fun t ht => ?_, fun t ht => ?_, ?_, ?_, ?_, ?_, ?_⟩, ⟨l3, l1, by omega, by omega, by show wsum wtk _ ≤ _; omega, by show wsum aok _ ≤ _; omega, by show wsum eqw _ ≤ _; omega⟩⟩
  · rcases mem_spoil ht with rfl | ht
    · exact m1
    · exact l3 t ht
  · rcases mem_spoil ht with rfl | ht
    · exact m2
    · exact l1 t ht
  · have := len_spoil ch at_ x (pt n); omega
  · have e : wsum tlen (spoil ch at_ x (pt n)) = wsum (fun t => min (tlen t) 2400) (spoil ch at_ x (pt n)) := by
      refine wsum_congr fun t ht => ?_
      have : tlen t ≤ 2400 := by
        rcases mem_spoil ht with rfl | ht
        · omega
        · have := wsum_mem (g := tlen) ht; omega
      show tlen t = min (tlen t) 2400
      omega
    have k1 := wsum_spoil (fun t => min (tlen t) 2400) (c := 2400) (fun s => Nat.min_le_right _ _) ch at_ x (pt n)
    have k2 : wsum (fun t => min (tlen t) 2400) (pt n) ≤ wsum tlen (pt n) := wsum_le fun t _ => Nat.min_le_left _ _
    omega
  · have := wsum_spoil wtk wtk_le ch at_ x (pt n); show wsum wtk _ ≤ _; omega
  · have := wsum_spoil aok aok_le ch at_ x (pt n); show wsum aok _ ≤ _; omega
  · have := wsum_spoil eqw eqw_le ch at_ x (pt n); show wsum eqw _ ≤ _; omega
theorem B_small {ts : List Str} (h1 : eqs ts ≤ 1) (h2 : ts.length ≤ 10000) : B ts ≤ 1000000 := by
  unfold B
  have : 2 ^ eqs ts ≤ 2 ^ 1 := Nat.pow_le_pow_right (by decide) h1
  calc 2 ^ eqs ts * (2 * ts.length) ≤ 2 ^ 1 * (2 * ts.length) := Nat.mul_le_mul_right _ this
    _ ≤ 1000000 := by omega
def wdOf : Kd → Wd
  | .term => .t
  | _ => .c
/-- what a row's reading says of its walk -/
structure Say (kd : Kd) (ts : List Str) (x : R) : Prop where
  eP : P 640 kd 0 ts = x
  nt : x ≠ .out
  eW : W 200 (wdOf kd) ts = er x
theorem say {ts : List Str} (g : Rnd ts) (kd : Kd) (hk : kd = .term ∨ kd = .cond) : ∃ x, Say kd ts x := by
  have hc : cc kd ≤ 7 := by rcases hk with rfl | rfl <;> decide
  have h1 := g.ws
  have h2 := g.ac
  have ho := opc_wts ts
  have hn : P 182 kd 0 ts ≠ .out := P_ne 182 kd 0 ts (by omega)
  have hm := P_mono (f := 182) (g := 640) (by decide) hn
  have hw := PW 182 kd 0 ts (by omega) hn
  refine ⟨P 182 kd 0 ts, hm, hn, ?_⟩
  rcases hk with rfl | rfl
  · exact hw 200 (by omega)
  · exact hw 200 (by omega)
theorem jn {ts : List Str} (g : Rnd ts) : tl (Txt.join " " ts) = TL.joinL [32] (ts.map tl) ∧ tk (tl (Txt.join " " ts)) = some ts ∧ (tl (Txt.join " " ts)).length ≤ 7201 ∧ B ts ≤ 1000000 := by
  have e : tl (Txt.join " " ts) = TL.joinL [32] (ts.map tl) := by
    have := TL.tl_join (" " : Str) ts
    rw [show TL.tl (" " : Str) = [32] from by decide +kernel] at this
    rw [TL.join_eq]
    exact this
  have h1 := joinL_le ts
  have h2 := g.sum
  have h3 := g.len
  exact ⟨e, by rw [e]; exact (tk_join ts g.tb).2, by rw [e]; omega, B_small g.eq (by omega)⟩
def ansR (x : R) : Ans := match x with
    | .out => .out
    | .bad => .form
    | .ok [n] [] => if size n ≤ 400 ∧ depth n ≤ 40 then .node n else .large
    | .ok _ _ => .form
theorem rd_row {kd : Kd} {l : List Nat} {ts : List Str} {x : R} (e : tk l = some ts) (h : P 640 kd 0 ts = x) : rd 640 kd l = ansR x := by
  subst h
  unfold rd ansR
  rw [e] <;> rfl
/-- the round's answer and the walk's end -/
theorem due {ts : List Str} {kd : Kd} {x : R} (hk : kd = .term ∨ kd = .cond) (s : Say kd ts x) {l : List Nat} (e : tk l = some ts) : rd 640 kd l ≠ .out ∧
    ((er x = .bad ∧ rd 640 kd l = .form) ∨ ∃ m, m ≤ ts.length ∧ er x = .ok [] (ts.drop m) ∧ ((m = ts.length ∧ ∃ y, rd 640 kd l = y ∧ (toldS y = "node" ∨ toldS y = "large")) ∨ (m ≠ ts.length ∧ rd 640 kd l = .form))) := by
  have hr := rd_row e s.eP
  cases x with
  | out => exact absurd rfl s.nt
  | bad => have hr' : rd 640 kd l = .form := hr
           rw [hr']; exact ⟨fun z => (by cases z), .inl ⟨rfl, rfl⟩⟩
  | ok ns r =>
    have hkx : kd.ext := by rcases hk with rfl | rfl <;> trivial
    have h2 : kd ≠ .two := by rcases hk with rfl | rfl <;> (intro z; cases z)
    obtain ⟨c, ec⟩ := suf1 s.eP hkx
    obtain ⟨t, rfl⟩ := shape1 s.eP hkx h2
    have em : r = ts.drop c.length := by rw [ec, List.drop_left]
    have el : ts.length = c.length + r.length := by rw [ec, List.length_append]
    cases r with
    | nil =>
      rw [hr]
      unfold ansR
      dsimp only
      refine ⟨?_, .inr ⟨c.length, by omega, by rw [← em]; rfl, .inl ⟨by rw [el]; rfl, _, rfl, ?_⟩⟩⟩
      · split <;> (intro z; cases z)
      · split
        · exact .inl rfl
        · exact .inr rfl
    | cons a r =>
      have hr' : rd 640 kd l = .form := hr
      rw [hr']
      rw [List.length_cons] at el
      exact ⟨fun z => (by cases z), .inr ⟨c.length, by omega, by rw [← em]; rfl, .inr ⟨by omega, rfl⟩⟩⟩
/-- a sign too many -/
theorem bad_end {ts : List Str} {bd z : Str} {kd : Kd} (hk : kd = .term ∨ kd = .cond) (g : Rnd ts) (hb : bd ∈ bads) (hz : tl z = tl (Txt.join " " ts) ++ 32 :: tl bd) :
    z.length ≤ 1000000 ∧ (∀ row, tk (tl z) = some row → B row ≤ 1000000) ∧ rd 640 kd (tl z) = .form := by
  obtain ⟨b1, b2⟩ := bads_ok bd hb
  obtain ⟨j1, j2, j3, j4⟩ := jn g
  have hl : z.length ≤ 1000000 := by
    rw [len_tl, hz, List.length_append, List.length_cons]
    unfold tlen at b2
    omega
  have et : tk (tl z) = (tk (tl bd)).map (ts ++ ·) := by rw [hz, j1]; exact (tk_join ts g.tb).1 _
  rcases b1 with b1 | b1
  · rw [b1] at et
    refine ⟨hl, fun row e => ?_, ?_⟩
    · rw [et] at e; cases e
    · unfold rd; rw [et]; rfl
  · rw [b1] at et
    have et' : tk (tl z) = some (ts ++ [("1a" : Str)]) := et
    have h1 := g.ws
    have h3 := g.len
    have h4 := g.eq
    have hw : wts (ts ++ [("1a" : Str)]) = wts ts := by
      rw [wts_app, show wts [("1a" : Str)] = 0 from by decide +kernel]; rfl
    have he : eqs (ts ++ [("1a" : Str)]) = eqs ts := by
      show wsum eqw _ = _
      rw [wsum_app, show wsum eqw [("1a" : Str)] = 0 from by decide +kernel]; rfl
    have hc : cc kd ≤ 7 := by rcases hk with rfl | rfl <;> decide
    have hn : P 640 kd 0 (ts ++ [("1a" : Str)]) ≠ .out := P_ne 640 kd 0 _ (by rw [hw]; omega)
    refine ⟨hl, fun row e => ?_, ?_⟩
    · rw [et'] at e
      obtain rfl := Option.some.inj e
      exact B_small (by rw [he]; exact h4) (by rw [List.length_append]; show _ + 1 ≤ _; omega)
    · rw [rd_row et' rfl]
      cases e : P 640 kd 0 (ts ++ [("1a" : Str)]) with
      | out => exact absurd e hn
      | bad => rfl
      | ok ns r =>
        have no : ∀ c : List Str, ts ++ [("1a" : Str)] = c ++ r → ("1a" : Str) ∉ c → r ≠ [] := fun c ec hc er => by
          rw [er, List.append_nil] at ec
          exact hc (ec ▸ by simp)
        have hr : r ≠ [] := by
          rcases hk with rfl | rfl
          · obtain ⟨c, t, ec, hc, _⟩ := P_post no1a 640 .term 0 _ _ _ e
            exact no c ec hc
          · obtain ⟨c, t, ec, hc, _⟩ := P_post no1a 640 .cond 0 _ _ _ e
            exact no c ec hc
        cases r with
        | nil => exact absurd rfl hr
        | cons a r => cases ns with
          | nil => rfl
          | cons b ns => cases ns <;> rfl
/-! ### the fixed texts -/
def okL (l : List Nat) : Bool := match tk l with
  | some row => decide (B row ≤ 1000000)
  | none => true
def okR (kd : Kd) (l : List Nat) (a : Str) : Bool := match rd 640 kd l with
  | .out => false
  | y => decide (toldS y = a)
def chk (kd : Kd) (z a : Str) : Bool := decide (z.length ≤ 1000000) && (okL (tl z) && okR kd (tl z) a)
theorem chk_ok {kd : Kd} {z a : Str} (h : chk kd z a = true) : z.length ≤ 1000000 ∧ (∀ row, tk (tl z) = some row → B row ≤ 1000000) ∧ rd 640 kd (tl z) ≠ .out ∧ toldS (rd 640 kd (tl z)) = a := by
  unfold chk at h
  simp only [Bool.and_eq_true, decide_eq_true_eq] at h
  obtain ⟨h1, h2, h3⟩ := h
  refine ⟨h1, fun row e => ?_, ?_⟩
  · unfold okL at h2
    rw [e] at h2
    exact of_decide_eq_true h2
  · unfold okR at h3
    cases e : rd 640 kd (tl z) with
    | out => rw [e] at h3; cases h3
    | _ => rw [e] at h3; exact ⟨fun z => (by cases z), of_decide_eq_true h3⟩
def zP : Str := rpt 101 "(" ++ "a" ++ rpt 101 ")"
def zD : Str := rpt 50 "not " ++ rpt 51 "[" ++ "yes" ++ rpt 51 "]"
def zA : Str := rpt 100 "(" ++ "a" ++ rpt 100 ")"
def zY : Str := rpt 100 "[" ++ "yes" ++ rpt 100 "]"
def fix0 : List Str := ["", "@1000001", "@12345678", "open c 7(a)", "open c 0(a)", "open c -7(a)", "a + 1000001", zP, "next is(a)"]
theorem fix0_ok : ∀ z ∈ fix0, chk .term z "form" = true := List.all_eq_true.mp (by decide +kernel)
theorem fix1 : chk .cond "" "form" = true := by decide +kernel
theorem fixD : chk .cond zD "form" = true := by decide +kernel
theorem fixR : chk .cond (rp1 (rp1 zD "[" "") "]" "") "large" = true := by decide +kernel
theorem fixA : chk .term zA "node" = true := by decide +kernel
theorem fixY : chk .cond zY "node" = true := by decide +kernel
end KT

namespace KT
open PySem PySem.Spec
open PyProof.Rows L2 KM
/-! ### parts of a list -/
theorem cut_gen {α : Type} (xs : List α) (a b : Nat) : (xs.drop (min a xs.length)).take (min b xs.length - min a xs.length) = (xs.drop a).take (b - a) := by
  refine List.ext_getElem? fun i => ?_
  rw [List.getElem?_take, List.getElem?_take, List.getElem?_drop, List.getElem?_drop]
  by_cases h : a ≤ xs.length
  · rw [Nat.min_eq_left h]
    by_cases h2 : b ≤ xs.length
    · rw [Nat.min_eq_left h2]
    · rw [show min b xs.length = xs.length by omega]
      by_cases h3 : i < xs.length - a
      · rw [if_pos h3, if_pos (by omega)]
      · rw [if_neg h3, List.getElem?_eq_none (by omega)]
        split <;> rfl
  · rw [show min a xs.length = xs.length by omega, List.getElem?_eq_none (show xs.length ≤ xs.length + i by omega), List.getElem?_eq_none (show xs.length ≤ a + i by omega)]
    split <;> split <;> rfl
theorem cut_to (xs : List V) (b : Nat) : cutV xs none (some (b : Int)) = xs.take b := by
  unfold cutV
  rw [HT.sIx_nat, HT.sIx_none]
  have := cut_gen xs 0 b
  rw [Nat.zero_min] at this
  exact this
theorem cut_from (xs : List V) (a : Nat) : cutV xs (some (a : Int)) none = xs.drop a := by
  unfold cutV
  rw [HT.sIx_nat, HT.sIx_none]
  have := cut_gen xs a xs.length
  rw [Nat.min_self] at this
  rw [this]
  exact List.take_of_length_le (by rw [List.length_drop]; omega)
theorem cut_mid (xs : List V) (a b : Nat) : cutV xs (some (a : Int)) (some (b : Int)) = (xs.drop a).take (b - a) := by
  unfold cutV
  rw [HT.sIx_nat, HT.sIx_nat]
  exact cut_gen xs a b
/-- t makes a new list of these texts -/
def Mk (σ : L2.St) (l : Addr) (row : List Str) (t : TE) (xs : List Str) : Prop := ∀ (H : Hp) (Q : VK), H l = some (.lst (row.map V.str)) → (∀ p H', Same H H' → H' p = some (.lst (xs.map V.str)) → Q (.ref p) H') → t σ H Q
section
variable {K : PySem.W.Frag} {σ : L2.St} {l : Addr} {row xs ys : List Str} {q c : Nat} {t u : TE} {x : Str} {z z2 : Int}
theorem mk_put {H : Hp} {Q : VK} {vs : List V} (e : vs = xs.map V.str) (k : ∀ p H', Same H H' → H' p = some (.lst (xs.map V.str)) → Q (.ref p) H') : ∀ p, H p = none → Q (.ref p) (upd H p (.lst vs)) := fun p np => by
  subst e
  exact k p _ (same_upd np) upd_same
theorem mk_take (h6 : σ[6]? = some (some (.ref l))) (h7 : σ[7]? = some (some (.int (q : Int)))) : Mk σ l row (tSl (rSlL K) (tVar 6) tNoPart (tPart (tVar 7))) (row.take q) := fun H Q hl k =>
  ⟨_, h6, _, h7, _, rfl, l, _, rfl, SqL.of hl, mk_put (by rw [cut_to, List.map_take]) k⟩
theorem mk_drop (h6 : σ[6]? = some (some (.ref l))) (h7 : σ[7]? = some (some (.int (q : Int)))) : Mk σ l row (tSl (rSlL K) (tVar 6) (tPart (tVar 7)) tNoPart) (row.drop q) := fun H Q hl k =>
  ⟨_, h6, _, h7, _, rfl, l, _, rfl, SqL.of hl, mk_put (by rw [cut_from, List.map_drop]) k⟩
theorem mk_dropc (h6 : σ[6]? = some (some (.ref l))) (h7 : σ[7]? = some (some (.int (q : Int)))) (hz : z = (c : Int)) : Mk σ l row (tSl (rSlL K) (tVar 6) (tPart (tOp (rI0 fun i j => .int (i + j)) (tVar 7) (tC (.int z)))) tNoPart) (row.drop (q + c)) := fun H Q hl k => by
  subst hz
  exact ⟨_, h6, _, h7, _, _, rfl, rfl, _, rfl, l, _, rfl, SqL.of hl, mk_put (by rw [← Int.natCast_add, cut_from, List.map_drop]) k⟩
theorem mk_one (h6 : σ[6]? = some (some (.ref l))) (h7 : σ[7]? = some (some (.int (q : Int)))) : Mk σ l row (tSl (rSlL K) (tVar 6) (tPart (tVar 7)) (tPart (tOp (rI0 fun i j => .int (i + j)) (tVar 7) (tC (.int 1))))) ((row.drop q).take 1) := fun H Q hl k =>
  ⟨_, h6, _, h7, _, rfl, _, h7, _, _, rfl, rfl, _, rfl, l, _, rfl, SqL.of hl, mk_put (by rw [show (q : Int) + 1 = ((q + 1 : Nat) : Int) from rfl, cut_mid, List.map_take, List.map_drop, Nat.add_sub_cancel_left]) k⟩
theorem mk_one1 (h6 : σ[6]? = some (some (.ref l))) (h7 : σ[7]? = some (some (.int (q : Int)))) : Mk σ l row (tSl (rSlL K) (tVar 6) (tPart (tOp (rI0 fun i j => .int (i + j)) (tVar 7) (tC (.int 1)))) (tPart (tOp (rI0 fun i j => .int (i + j)) (tVar 7) (tC (.int 2))))) ((row.drop (q + 1)).take 1) := fun H Q hl k =>
  ⟨_, h6, _, h7, _, _, rfl, rfl, _, rfl, _, h7, _, _, rfl, rfl, _, rfl, l, _, rfl, SqL.of hl, mk_put (by rw [show (q : Int) + 1 = ((q + 1 : Nat) : Int) from rfl, show (q : Int) + 2 = ((q + 2 : Nat) : Int) from rfl, cut_mid, List.map_take, List.map_drop, show q + 2 - (q + 1) = 1 by omega]) k⟩
theorem mk_lst (h9 : σ[9]? = some (some (.str x))) : Mk σ l row (tLst (tCons (tVar 9) tNil)) [x] := fun H Q hl k =>
  ⟨_, h9, by show 1 ≤ sizeLine; decide, mk_put (xs := [x]) rfl k⟩
theorem mk_cat (h1 : Mk σ l row t xs) (h2 : Mk σ l row u ys) (hz : xs.length + ys.length ≤ 1000000) : Mk σ l row (tOp rCat t u) (xs ++ ys) := fun H Q hl k =>
  h1 H _ hl fun p H1 s1 e1 => h2 H1 _ (s1 _ _ hl) fun p2 H2 s2 e2 =>
    ⟨p, p2, _, _, rfl, rfl, s2 _ _ e1, e2, by rw [List.length_map, List.length_map]; exact sl6 hz, fun p3 n3 => by
      rw [← List.map_append]
      exact k p3 _ ((s1.trans s2).trans (same_upd n3)) upd_same⟩
def chgIf (K : PySem.W.Frag) : TS :=
  tIfS (tTest (tOp rEq (tVar 10) (tC (.int 0)))) (tAsg (tOp rCat (tSl (rSlL K) (tVar 6) tNoPart (tPart (tVar 7))) (tSl (rSlL K) (tVar 6) (tPart (tOp (rI0 fun i j => .int (i + j)) (tVar 7) (tC (.int 1)))) tNoPart)) (gName 6))
  (tIfS (tTest (tOp rEq (tVar 10) (tC (.int 1)))) (tAsg (tOp rCat (tOp rCat (tSl (rSlL K) (tVar 6) tNoPart (tPart (tVar 7))) (tLst (tCons (tVar 9) tNil))) (tSl (rSlL K) (tVar 6) (tPart (tVar 7)) tNoPart)) (gName 6))
  (tIfS (tTest (tOp rEq (tVar 10) (tC (.int 2)))) (tAsg (tOp rCat (tOp rCat (tSl (rSlL K) (tVar 6) tNoPart (tPart (tVar 7))) (tLst (tCons (tVar 9) tNil))) (tSl (rSlL K) (tVar 6) (tPart (tOp (rI0 fun i j => .int (i + j)) (tVar 7) (tC (.int 1)))) tNoPart)) (gName 6))
  (tIfS (tTest (tOp rEq (tVar 10) (tC (.int 3)))) (tAsg (tOp rCat (tOp rCat (tSl (rSlL K) (tVar 6) tNoPart (tPart (tVar 7))) (tSl (rSlL K) (tVar 6) (tPart (tVar 7)) (tPart (tOp (rI0 fun i j => .int (i + j)) (tVar 7) (tC (.int 1)))))) (tSl (rSlL K) (tVar 6) (tPart (tVar 7)) tNoPart)) (gName 6))
  (tAsg (tOp rCat (tOp rCat (tOp rCat (tSl (rSlL K) (tVar 6) tNoPart (tPart (tVar 7))) (tSl (rSlL K) (tVar 6) (tPart (tOp (rI0 fun i j => .int (i + j)) (tVar 7) (tC (.int 1)))) (tPart (tOp (rI0 fun i j => .int (i + j)) (tVar 7) (tC (.int 2))))))
    (tSl (rSlL K) (tVar 6) (tPart (tVar 7)) (tPart (tOp (rI0 fun i j => .int (i + j)) (tVar 7) (tC (.int 1)))))) (tSl (rSlL K) (tVar 6) (tPart (tOp (rI0 fun i j => .int (i + j)) (tVar 7) (tC (.int 2)))) tNoPart)) (gName 6)))))
theorem chg_run {D : Ends} {H : Hp} {ch : Int} (h6 : σ[6]? = some (some (.ref l))) (h7 : σ[7]? = some (some (.int (q : Int)))) (h9 : σ[9]? = some (some (.str x))) (h10 : σ[10]? = some (some (.int ch))) (hl : H l = some (.lst (row.map V.str))) (hz : row.length ≤ 10000)
    (k : ∀ (n : Nat) p H', Same H H' → H' p = some (.lst ((spoil n q x row).map V.str)) → gName 6 (.ref p) σ H' D.nx) : chgIf K D σ H := by
  have t1 : (row.take q).length ≤ row.length := by rw [List.length_take]; omega
  have t2 : ∀ c, (row.drop c).length ≤ row.length := fun c => by rw [List.length_drop]; omega
  have t3 : ∀ c, ((row.drop c).take 1).length ≤ 1 := fun c => by rw [List.length_take]; omega
  have t4 := t2 q
  have t5 := t2 (q + 1)
  have t6 := t2 (q + 2)
  have t7 := t3 q
  have t8 := t3 (q + 1)
  refine eq1 h10 (fun _ => ?_) (fun _ => eq1 h10 (fun _ => ?_) (fun _ => eq1 h10 (fun _ => ?_) (fun _ => eq1 h10 (fun _ => ?_) (fun _ => ?_))))
  · exact mk_cat (mk_take h6 h7) (mk_dropc (c := 1) h6 h7 rfl) (by omega) H _ hl (k 0)
  · exact mk_cat (mk_cat (mk_take h6 h7) (mk_lst h9) (by rw [List.length_singleton]; omega)) (mk_drop h6 h7) (by rw [List.length_append, List.length_singleton]; omega) H _ hl (k 1)
  · exact mk_cat (mk_cat (mk_take h6 h7) (mk_lst h9) (by rw [List.length_singleton]; omega)) (mk_dropc (c := 1) h6 h7 rfl) (by rw [List.length_append, List.length_singleton]; omega) H _ hl (k 2)
  · exact mk_cat (mk_cat (mk_take h6 h7) (mk_one h6 h7) (by omega)) (mk_drop h6 h7) (by rw [List.length_append]; omega) H _ hl (k 3)
  · exact mk_cat (mk_cat (mk_cat (mk_take h6 h7) (mk_one1 h6 h7) (by omega)) (mk_one h6 h7) (by rw [List.length_append]; omega)) (mk_dropc (c := 2) h6 h7 rfl) (by rw [List.length_append, List.length_append]; omega) H _ hl (k 4)
theorem due_if {D : Ends} {H : Hp} {A : TS} {u v : Str} (h13 : σ[13]? = some (some (.str u))) (h12 : σ[12]? = some (some (.str v))) (h : (u = v ∧ u ≠ "large") ∨ (u = "large" ∧ v ≠ "form")) (k : D.nx σ H) :
    tIfS (tOr (tAnd (tTest (tOp rNe (tVar 13) (tVar 12))) (tTest (tOp rNe (tVar 13) (tC (.str "large"))))) (tAnd (tTest (tOp rEq (tVar 13) (tC (.str "large")))) (tTest (tOp rEq (tVar 12) (tC (.str "form")))))) A tNext D σ H := by
  rcases h with ⟨rfl, h⟩ | ⟨rfl, h⟩
  · refine ⟨_, h13, _, h12, rfl, _, rfl, ?_⟩
    rw [decide_eq_true (rfl : V.str u = V.str u)]
    refine iteF (iteF ⟨_, h13, rfl, _, rfl, ?_⟩)
    rw [decide_eq_false (fun e => h (V.str.inj e))]
    exact iteF (iteF k)
  · refine ⟨_, h13, _, h12, rfl, _, rfl, ?_⟩
    have l2 : tAnd (tTest (tOp rEq (tVar 13) (tC (.str "large")))) (tTest (tOp rEq (tVar 12) (tC (.str "form")))) σ H fun c H1 => if c = true then A D σ H1 else tNext D σ H1 := by
      refine ⟨_, h13, rfl, _, rfl, ?_⟩
      rw [decide_eq_true (rfl : V.str "large" = V.str "large")]
      refine iteT ⟨_, h12, rfl, _, rfl, ?_⟩
      rw [decide_eq_false (fun e => h (V.str.inj e))]
      exact iteF k
    refine ite2 (fun _ => ?_) (fun _ => iteF l2)
    refine ⟨_, h13, rfl, _, rfl, ?_⟩
    rw [decide_eq_true (rfl : V.str "large" = V.str "large")]
    exact iteF l2
theorem r_pick {H : Hp} {Q : VK} (ws : List Str) (hn : ws.length ≤ 1000000) (h : ∀ (b : Addr) (H' : Hp), Same H H' → (∀ i : Int, 0 ≤ i → i < ws.length → (∀ x ∈ ws, Q (.str x) H') → rIxL K (.ref b) (.int i) H' Q) → t σ H' fun y H2 => rIxL K (.ref b) y H2 Q) : tOp (rIxL K) (tLst (tCs ws)) t σ H Q := by
  refine tCs_run ws ⟨by rw [List.length_map]; exact sl6 hn, fun b nb => h b _ (same_upd nb) fun i h0 h1 k => ?_⟩
  obtain ⟨v, e1, x, rfl, hx⟩ := at_all (xs := ws.map V.str) (i := i) (Pr := fun v => ∃ x, v = .str x ∧ x ∈ ws) (fun v hv => by
    obtain ⟨x, hx, rfl⟩ := List.mem_map.mp hv
    exact ⟨x, rfl, hx⟩) h0 (by rw [List.length_map]; exact h1)
  exact ⟨b, _, i, _, rfl, rfl, SqL.of upd_same, e1, k x hx⟩
/-- the end of a walk -/
def Fin (ts : List Str) (x : R) (e : Int) : Prop := (er x = .bad ∧ e = -1) ∨ ∃ m : Nat, m ≤ ts.length ∧ er x = .ok [] (ts.drop m) ∧ e = (m : Int)
theorem ew_of {kd : Kd} {ts : List Str} {x : R} {H : Hp} {Q : VK} (s : Say kd ts x) (k : ∀ e H', Same H H' → Fin ts x e → Q (.int e) H') : EW ts H Q (W 200 (wdOf kd) (ts.drop 0)) := by
  rw [List.drop_zero, s.eW]
  have hn : er x ≠ .out := by
    intro e
    cases x with
    | out => exact s.nt rfl
    | bad => cases e
    | ok ns r => cases e
  refine ⟨hn, fun e H' s' => k _ H' s' (.inl ⟨e, rfl⟩), fun ns r m e hm er' H' s' => k _ H' s' (.inr ⟨m, hm, ?_, rfl⟩)⟩
  cases x with
  | out => cases e
  | bad => cases e
  | ok ns' r' =>
    injection e with e1 e2
    show R.ok [] r' = _
    rw [e2, er']
theorem fin_due {kd : Kd} {ts : List Str} {x : R} {e : Int} {l : List Nat} (hk : kd = .term ∨ kd = .cond) (s : Say kd ts x) (f : Fin ts x e) (ht : tk l = some ts) :
    rd 640 kd l ≠ .out ∧ ((toldS (rd 640 kd l) = (if e == (ts.length : Int) then ("node" : Str) else "form") ∧ toldS (rd 640 kd l) ≠ "large") ∨ (toldS (rd 640 kd l) = "large" ∧ (if e == (ts.length : Int) then ("node" : Str) else "form") ≠ "form")) := by
  obtain ⟨h1, h2⟩ := due hk s ht
  refine ⟨h1, ?_⟩
  have w1 : toldS .form = "form" := rfl
  have n1 : ("form" : Str) ≠ "large" := by decide +kernel
  have n2 : ("node" : Str) ≠ "large" := by decide +kernel
  have n3 : ("node" : Str) ≠ "form" := by decide +kernel
  rcases f with ⟨f1, rfl⟩ | ⟨m, f0, f1, rfl⟩
  · rw [show ((-1 : Int) == (ts.length : Int)) = false from beq_eq_false_iff_ne.mpr (by omega), if_neg (by decide)]
    rcases h2 with ⟨_, h2⟩ | ⟨m, _, h2, _⟩
    · rw [h2]; exact .inl ⟨rfl, n1⟩
    · rw [f1] at h2; cases h2
  · rcases h2 with ⟨h2, _⟩ | ⟨m', g0, h2, h3⟩
    · rw [f1] at h2; cases h2
    · rw [f1] at h2
      injection h2 with _ h2
      have hm : m = m' := by
        have := congrArg List.length h2
        rw [List.length_drop, List.length_drop] at this
        omega
      subst hm
      rcases h3 with ⟨h3, y, hy, h4⟩ | ⟨h3, h4⟩
      · rw [show ((m : Int) == (ts.length : Int)) = true from beq_iff_eq.mpr (by omega), if_pos rfl, hy]
        rcases h4 with h4 | h4
        · exact .inl ⟨h4, by rw [h4]; exact n2⟩
        · exact .inr ⟨h4, n3⟩
      · rw [show ((m : Int) == (ts.length : Int)) = false from beq_eq_false_iff_ne.mpr (by omega), if_neg (by decide), h4]
        exact .inl ⟨rfl, n1⟩
end
theorem eq1R {σ : L2.St} {H : Hp} {m : Nat} {x i : Int} {A B : TS} {D : Ends} (R : L2.St → Hp → Prop) (hm : σ[m]? = some (some (.int x))) (hk : ∀ σ' H', R σ' H' → D.nx σ' H') (kA : x = i → (∀ σ' H', R σ' H' → D.nx σ' H') → A D σ H) (kB : x ≠ i → (∀ σ' H', R σ' H' → D.nx σ' H') → B D σ H) :
    tIfS (tTest (tOp rEq (tVar m) (tC (.int i)))) A B D σ H := eq1 hm (fun c => kA c hk) (fun c => kB c hk)
theorem seq_if {C b : TS} {D : Ends} {σ : L2.St} {H : Hp} (h : C { D with nx := b D } σ H) : tSeq C b D σ H := h
theorem chk_k {k : Int} {kd : Kd} {z ans : Str} (hk : kdOf k = kd) (h : chk kd z ans = true) : z.length ≤ 1000000 ∧ (∀ row, tk (tl z) = some row → B row ≤ 1000000) ∧ rd 640 (kdOf k) (tl z) ≠ .out ∧ toldS (rd 640 (kdOf k) (tl z)) = ans := by
  subst hk
  exact chk_ok h
theorem ne_no {a : Str} {A B : Prop} (h : B) : if (!decide (V.str a = V.str a)) = true then A else B := by
  rw [decide_eq_true (rfl : V.str a = V.str a)]
  exact iteF h
theorem eq_yes {a : Str} {A B : Prop} (h : A) : if decide (V.str a = V.str a) = true then A else B := by
  rw [decide_eq_true (rfl : V.str a = V.str a)]
  exact iteT h
theorem sum_len : ∀ l : List Str, (l.map (fun x => x.length)).sum = wsum tlen l
  | [] => rfl
  | t :: r => by rw [List.map_cons, List.sum_cons, sum_len r, wsum_cons, len_tl]; rfl
theorem px2400 {n : Nd} {b : Bool} (h : wk b n) (hd : depth n ≤ 4) : (px n).length ≤ 2400 := by
  have := px_len n b h
  have := size4 hd
  omega
theorem row_same {H H' : Hp} {a : Addr} (h : RowAt H a) (s : Same H H') : RowAt H' a := by
  obtain ⟨xs, h1, h2⟩ := h
  exact ⟨xs, s _ _ h1, h2⟩
def spLaw (K : PySem.W.Frag) : Sp := fun vs H Q _ => ∃ (a : Addr) (ns : List Int), vs = [.ref a] ∧ SqL K H a (ns.map V.int) ∧ ns.length ≤ 63 ∧ ∀ H', Q (.bl true) H'
def PvL (a D : Addr) (_ : Nat) (σ : L2.St) (H : Hp) : Prop := ∃ x2 x3 x4 x5 x6 x7 x8 x9 x10 x11 x12 x13 x14 x15 : Option V, σ = [some (.ref a), some (.ref D), x2, x3, x4, x5, x6, x7, x8, x9, x10, x11, x12, x13, x14, x15] ∧ RowAt H D
def PvF (a D L : Addr) (_ : Nat) (σ : L2.St) (H : Hp) : Prop := PvL a D 0 σ H ∧ H L = some (.lst (fix0.map V.str))
section
variable {P : Program} {w : World} {K : PySem.W.Frag} {mg : Str → Option Value} {base : Heap}
theorem ok_law (T : Tp w K mg) {fd : FuncData} (F : FunD K "law" "law" (defArgs s_law) (defBody s_law) (defScope s_law) [] [] (He.ga K "law") fd) : FnOk P w K mg base (L2.CX P w) 223 (He.ga K "law") fd P_law (spLaw K) := by
  have G__law_row := ok__law_row (P := P) (base := base) T
  have G__law_at := ok__law_at (P := P) (base := base) T
  have G__law_term := (gens (P := P) (base := base) T 4).1
  have G__law_condition := (gens (P := P) (base := base) T 4).2
  have G__law_text := law_texts (P := P) (base := base) T 4
  have G__law_tokens := ok__law_tokens (P := P) (base := base) T
  have G__law_t := (walks (P := P) (base := base) T 200).t
  have G__law_c := (walks (P := P) (base := base) T 200).c
  have G__law_told := ok__law_told (P := P) (base := base) T
  refine FunD.ok F sc_law (fun vs H Q E h => ?_) (fun cdv A outer s H vs Q E hr h => ?_)
  · obtain ⟨a, ns, rfl, _⟩ := h
    rfl
  refine ⟨_, (pss_cons (ps_set (i := 1) sc_law.nd rfl (Or.inl rfl) (pe_cl G__law_row hr (by omega) pasE (pa_cons (pv 0) pa_nil)))
      (pss_cons (ps_for pOwn rfl (pi_range1 rfl T.z_range (pa_cons pe_int pa_nil)) (pg_name (i := 2) sc_law.nd rfl (Or.inl rfl)) (pss_cons (ps_set (i := 3) sc_law.nd rfl (Or.inl rfl) (pe_op op_mod (pe_callTy call_int1 rfl T.z_int (by decide +kernel) (pa_cons (pe_cl G__law_at hr (by omega) pasE (pa_cons (pv 1) (pa_cons (pv 2) pa_nil))) pa_nil)) pe_int))
      (pss_cons (ps_set (i := 4) sc_law.nd rfl (Or.inl rfl) (pe_op op_add pe_int (pe_op op_mod (pe_callTy call_int1 rfl T.z_int (by decide +kernel) (pa_cons (pe_cl G__law_at hr (by omega) pasE (pa_cons (pv 1) (pa_cons (pe_op op_add pe_int (pv 2)) pa_nil))) pa_nil)) pe_int)))
      (pss_cons (ps_if (pt_cmpR op_eq (pv 3) pe_int (nomark _)) (pss_one (ps_set (i := 5) sc_law.nd rfl (Or.inl rfl) (pe_cl G__law_text hr (by omega) pasE (pa_cons (pe_cl G__law_term hr (by omega) pasE (pa_cons (pv 1) (pa_cons (pe_lst (pa_cons (pe_op op_add pe_int (pe_op op_mul pe_int (pv 2))) pa_nil)) (pa_cons (pv 4) pa_nil)))) pa_nil)))) (pss_one (ps_set (i := 5) sc_law.nd rfl (Or.inl rfl) (pe_cl G__law_text hr (by omega) pasE (pa_cons (pe_cl G__law_condition hr (by omega) pasE (pa_cons (pv 1) (pa_cons (pe_lst (pa_cons (pe_op op_add pe_int (pe_op op_mul pe_int (pv 2))) pa_nil)) (pa_cons (pv 4) pa_nil)))) pa_nil)))))
      (pss_cons (ps_set (i := 6) sc_law.nd rfl (Or.inl rfl) (pe_cl G__law_tokens hr (by omega) pasE (pa_cons (pv 5) pa_nil)))
      (pss_cons (ps_set (i := 7) sc_law.nd rfl (Or.inl rfl) (pe_op op_mod (pe_callTy call_int1 rfl T.z_int (by decide +kernel) (pa_cons (pe_cl G__law_at hr (by omega) pasE (pa_cons (pv 1) (pa_cons (pe_op op_add pe_int (pv 2)) pa_nil))) pa_nil)) (pe_op op_add (pe_callB call_len_seq rfl T.z_len PySem.boot_len (pa_cons (pv 6) pa_nil)) pe_int)))
      (pss_cons (ps_set (i := 8) sc_law.nd rfl (Or.inl rfl) (pe_lst (pa_cons pe_str (pa_cons pe_str (pa_cons pe_str (pa_cons pe_str (pa_cons pe_str (pa_cons pe_str (pa_cons pe_str (pa_cons pe_str (pa_cons pe_str (pa_cons pe_str (pa_cons pe_str (pa_cons pe_str (pa_cons pe_str (pa_cons pe_str (pa_cons pe_str (pa_cons pe_str (pa_cons pe_str (pa_cons pe_str (pa_cons pe_str (pa_cons pe_str (pa_cons pe_str (pa_cons pe_str (pa_cons pe_str (pa_cons pe_str pa_nil))))))))))))))))))))))))))
      (pss_cons (ps_set (i := 9) sc_law.nd rfl (Or.inl rfl) (pe_ix ix_list (pv 8) (pe_op op_mod (pe_callTy call_int1 rfl T.z_int (by decide +kernel) (pa_cons (pe_cl G__law_at hr (by omega) pasE (pa_cons (pv 1) (pa_cons (pe_op op_add pe_int (pv 2)) pa_nil))) pa_nil)) pe_int) (fun _ _ => rfl)))
      (pss_cons (ps_set (i := 10) sc_law.nd rfl (Or.inl rfl) (pe_op op_mod (pe_callTy call_int1 rfl T.z_int (by decide +kernel) (pa_cons (pe_cl G__law_at hr (by omega) pasE (pa_cons (pv 1) (pa_cons (pe_op op_add pe_int (pv 2)) pa_nil))) pa_nil)) pe_int))
      (pss_cons (ps_if (pt_cmpR op_eq (pv 10) pe_int (nomark _)) (pss_one (ps_set (i := 6) sc_law.nd rfl (Or.inl rfl) (pe_op op_cat (pe_slice sl_list (pv 6) po_none (po_some (pv 7))) (pe_slice sl_list (pv 6) (po_some (pe_op op_add (pv 7) pe_int)) po_none)))) (pss_one (ps_if (pt_cmpR op_eq (pv 10) pe_int (nomark _)) (pss_one (ps_set (i := 6) sc_law.nd rfl (Or.inl rfl) (pe_op op_cat (pe_op op_cat (pe_slice sl_list (pv 6) po_none (po_some (pv 7))) (pe_lst (pa_cons (pv 9) pa_nil))) (pe_slice sl_list (pv 6) (po_some (pv 7)) po_none)))) (pss_one (ps_if (pt_cmpR op_eq (pv 10) pe_int (nomark _)) (pss_one (ps_set (i := 6) sc_law.nd rfl (Or.inl rfl) (pe_op op_cat (pe_op op_cat (pe_slice sl_list (pv 6) po_none (po_some (pv 7))) (pe_lst (pa_cons (pv 9) pa_nil))) (pe_slice sl_list (pv 6) (po_some (pe_op op_add (pv 7) pe_int)) po_none)))) (pss_one (ps_if (pt_cmpR op_eq (pv 10) pe_int (nomark _)) (pss_one (ps_set (i := 6) sc_law.nd rfl (Or.inl rfl) (pe_op op_cat (pe_op op_cat (pe_slice sl_list (pv 6) po_none (po_some (pv 7))) (pe_slice sl_list (pv 6) (po_some (pv 7)) (po_some (pe_op op_add (pv 7) pe_int)))) (pe_slice sl_list (pv 6) (po_some (pv 7)) po_none)))) (pss_one (ps_set (i := 6) sc_law.nd rfl (Or.inl rfl) (pe_op op_cat (pe_op op_cat (pe_op op_cat (pe_slice sl_list (pv 6) po_none (po_some (pv 7))) (pe_slice sl_list (pv 6) (po_some (pe_op op_add (pv 7) pe_int)) (po_some (pe_op op_add (pv 7) pe_int)))) (pe_slice sl_list (pv 6) (po_some (pv 7)) (po_some (pe_op op_add (pv 7) pe_int)))) (pe_slice sl_list (pv 6) (po_some (pe_op op_add (pv 7) pe_int)) po_none)))))))))))
      (pss_cons (ps_set (i := 5) sc_law.nd rfl (Or.inl rfl) (pe_join pe_str (pv 6)))
      (pss_cons (ps_set (i := 11) sc_law.nd rfl (Or.inl rfl) (pe_ix ix_list (pe_lst (pa_cons (pe_cl G__law_t hr (by omega) pasE (pa_cons (pv 6) (pa_cons pe_int pa_nil))) (pa_cons (pe_cl G__law_c hr (by omega) pasE (pa_cons (pv 6) (pa_cons pe_int pa_nil))) pa_nil))) (pv 3) (fun _ _ => rfl)))
      (pss_cons (ps_set (i := 12) sc_law.nd rfl (Or.inl rfl) (pe_ix ix_list (pe_lst (pa_cons pe_str (pa_cons pe_str pa_nil))) (pe_callTy call_int1 rfl T.z_int (by decide +kernel) (pa_cons (pe_cmpR op_eq (pv 11) (pe_callB call_len_seq rfl T.z_len PySem.boot_len (pa_cons (pv 6) pa_nil)) (nomark _)) pa_nil)) (fun _ _ => rfl)))
      (pss_cons (ps_set (i := 13) sc_law.nd rfl (Or.inl rfl) (pe_cl G__law_told hr (by omega) pasE (pa_cons (pv 3) (pa_cons (pv 5) pa_nil))))
      (pss_cons (ps_if (PW.pt (pw_or (PW.pt (pw_and (pt_cmpR op_ne (pv 13) (pv 12) (nomark _)) (pw_and1 (pt_cmpR op_ne (pv 13) pe_str (nomark _))))) (pw_or1 (PW.pt (pw_and (pt_cmpR op_eq (pv 13) pe_str (nomark _)) (pw_and1 (pt_cmpR op_eq (pv 12) pe_str (nomark _)))))))) (pss_one (ps_ret pe_bl)) pss_nil)
      (pss_cons (ps_set (i := 14) sc_law.nd rfl (Or.inl rfl) (pe_ix ix_list (pe_lst (pa_cons pe_str (pa_cons pe_str (pa_cons pe_str (pa_cons pe_str (pa_cons pe_str (pa_cons pe_str (pa_cons pe_str (pa_cons pe_str (pa_cons pe_str (pa_cons pe_str pa_nil))))))))))) (pe_op op_mod (pe_callTy call_int1 rfl T.z_int (by decide +kernel) (pa_cons (pe_cl G__law_at hr (by omega) pasE (pa_cons (pv 1) (pa_cons (pe_op op_add pe_int (pv 2)) pa_nil))) pa_nil)) pe_int) (fun _ _ => rfl)))
      (pss_one (ps_if (pt_cmpR op_ne (pe_cl G__law_told hr (by omega) pasE (pa_cons (pv 3) (pa_cons (pe_op op_cat2 (pe_op op_cat2 (pv 5) pe_str) (pv 14)) pa_nil))) pe_str (nomark _)) (pss_one (ps_ret pe_bl)) pss_nil))))))))))))))))))
      (pss_cons (ps_for pOwn rfl (pi_list (pe_lst (pa_cons pe_str (pa_cons pe_str (pa_cons pe_str (pa_cons pe_str (pa_cons pe_str (pa_cons pe_str (pa_cons pe_str (pa_cons (pe_op op_cat2 (pe_op op_cat2 (pe_op op_mul_txt pe_str pe_int) pe_str) (pe_op op_mul_txt pe_str pe_int)) (pa_cons pe_str pa_nil))))))))))) (pg_name (i := 14) sc_law.nd rfl (Or.inl rfl)) (pss_one (ps_if (pt_cmpR op_ne (pe_cl G__law_told hr (by omega) pasE (pa_cons pe_int (pa_cons (pv 14) pa_nil))) pe_str (nomark _)) (pss_one (ps_ret pe_bl)) pss_nil)))
      (pss_cons (ps_set (i := 15) sc_law.nd rfl (Or.inl rfl) (pe_op op_cat2 (pe_op op_cat2 (pe_op op_cat2 (pe_op op_mul_txt pe_str pe_int) (pe_op op_mul_txt pe_str pe_int)) pe_str) (pe_op op_mul_txt pe_str pe_int)))
      (pss_cons (ps_if (PW.pt (pw_or (pt_cmpR op_ne (pe_cl G__law_told hr (by omega) pasE (pa_cons pe_int (pa_cons pe_str pa_nil))) pe_str (nomark _)) (pw_or (pt_cmpR op_ne (pe_cl G__law_told hr (by omega) pasE (pa_cons pe_int (pa_cons (pv 15) pa_nil))) pe_str (nomark _)) (pw_or1 (pt_cmpR op_ne (pe_cl G__law_told hr (by omega) pasE (pa_int1 (pet_rp1 (pet_rp1 (pet_of (pv 15)) (by decide +kernel)) (by decide +kernel)))) pe_str (nomark _)))))) (pss_one (ps_ret pe_bl)) pss_nil)
      (pss_one (ps_ret (pe_and (pe_cmpR op_eq (pe_cl G__law_told hr (by omega) pasE (pa_cons pe_int (pa_cons (pe_op op_cat2 (pe_op op_cat2 (pe_op op_mul_txt pe_str pe_int) pe_str) (pe_op op_mul_txt pe_str pe_int)) pa_nil))) pe_str (nomark _)) (pe_one (pe_cmpR op_eq (pe_cl G__law_told hr (by omega) pasE (pa_cons pe_int (pa_cons (pe_op op_cat2 (pe_op op_cat2 (pe_op op_mul_txt pe_str pe_int) pe_str) (pe_op op_mul_txt pe_str pe_int)) pa_nil))) pe_str (nomark _))))))))))), ?_⟩
  obtain ⟨a, ns, rfl, hq, hl, k⟩ := h
  refine seq_asg ⟨_, rfl, a, ns, rfl, hq, hl, fun D H1 nD s1 hD => ?_⟩
  refine ⟨3, rfl, by decide, by decide, for_range (PvL a D) ⟨_, _, _, _, _, _, _, _, _, _, _, _, _, _, rfl, hD⟩ ?_ ?_⟩
  · rintro i σ H2 hi ⟨x2, x3, x4, x5, x6, x7, x8, x9, x10, x11, x12, x13, x14, x15, rfl, hR⟩
    rw [show (0 : Int) + (i : Int) = (i : Int) by omega]
    refine ⟨_, rfl, _, rfl, D, _, rfl, hR, fun y h0 h1 => .inl ⟨y, rfl, _, _, rfl, rfl, by show (0 : Int) < 2; decide, ?_⟩⟩
    have hkz : y % 2 = 0 ∨ y % 2 = 1 := by omega
    show gName 3 (V.int (y % 2)) _ H2 _
    generalize y % 2 = kz at hkz ⊢
    refine ⟨_, rfl, _, rfl, _, _, rfl, rfl, D, _, rfl, hR, fun y2 g0 g1 => .inl ⟨y2, rfl, _, _, rfl, rfl, by show (0 : Int) < 4; decide, _, _, rfl, rfl, ?_⟩⟩
    obtain ⟨e, he, hle⟩ : ∃ e : Nat, 1 + y2 % 4 = ((e + 1 : Nat) : Int) ∧ e ≤ 3 := ⟨(y2 % 4).toNat, by omega, by omega⟩
    show gName 4 (V.int (1 + y2 % 4)) _ H2 _
    rw [he]
    refine seq_if (eq1R (fun σ' H' => ∃ (n : Nd) (b : Bool), σ' = [some (.ref a), some (.ref D), some (.int (i : Int)), some (.int kz), some (.int ((e + 1 : Nat) : Int)), some (.str (sS (px n))), x6, x7, x8, x9, x10, x11, x12, x13, x14, x15] ∧ RowAt H' D ∧ wk b n ∧ depth n ≤ 4) rfl ?_ (fun _ hk => ?_) (fun _ hk => ?_))
    · rintro σ' H4 ⟨n, b, rfl, hR4, hw, hd⟩
      have hp := px2400 hw hd
      dsimp only
      refine seq_asg ?_
      refine ⟨_, rfl, sS (px n), rfl, by rw [sS_len]; omega, fun l H5 nl s5 hl => ?_⟩
      rw [show tl (sS (px n)) = px n from rfl, lk_px hw] at hl
      have hR5 := row_same hR4 s5
      refine seq_asg ⟨_, rfl, _, rfl, _, _, rfl, rfl, D, _, rfl, hR5, fun y3 g2 g3 => .inl ⟨y3, rfl, _, rfl, l, _, rfl, .inl (SqL.of hl), _, _, rfl, rfl, _, _, rfl, rfl, ?_, ?_⟩⟩
      · rw [List.length_map]; omega
      have hq0 : 0 ≤ y3 % (((pt n).map V.str).length + 1 : Int) := Int.emod_nonneg _ (by omega)
      show gName 7 (V.int (y3 % (((pt n).map V.str).length + 1 : Int))) _ H5 _
      obtain ⟨q, hq'⟩ := Int.eq_ofNat_of_zero_le hq0
      rw [hq']
      refine seq_asg (tCs_run menu ⟨by decide, fun M nM => ?_⟩)
      have hR6 := row_same hR5 (same_upd (o := .lst (menu.map V.str)) nM)
      have hl6 := same_upd (o := .lst (menu.map V.str)) nM _ _ hl
      refine seq_asg ⟨_, rfl, _, rfl, _, rfl, _, _, rfl, rfl, D, _, rfl, hR6, fun y4 g4 g5 => .inl ⟨y4, rfl, _, _, rfl, rfl, by show (0 : Int) < 24; decide, ?_⟩⟩
      obtain ⟨v, ev, x, rfl, hx⟩ := at_all (xs := menu.map V.str) (i := y4 % 24) (Pr := fun v => ∃ x, v = .str x ∧ x ∈ menu) (fun v hv => by
        obtain ⟨x, hx, rfl⟩ := List.mem_map.mp hv
        exact ⟨x, rfl, hx⟩) (by omega) (by rw [List.length_map]; show y4 % 24 < 24; omega)
      refine ⟨M, _, _, _, rfl, rfl, SqL.of upd_same, ev, ?_⟩
      refine seq_asg ⟨_, rfl, _, rfl, _, _, rfl, rfl, D, _, rfl, hR6, fun y5 g6 g7 => .inl ⟨y5, rfl, _, _, rfl, rfl, by show (0 : Int) < 5; decide, ?_⟩⟩
      refine seq_if (chg_run (K := K) (q := q) (row := pt n) (x := x) rfl rfl rfl rfl hl6 ?_ (fun c p H7 s7 hp7 => ?_))
      · have := (tk_len (tk_px hw)).1; omega
      obtain ⟨g, -⟩ := rnd hw hd hx c q
      generalize spoil c q x (pt n) = row at g hp7
      have hR7 := row_same hR6 s7
      obtain ⟨j1, j2, j3, j4⟩ := jn g
      have jl : (Txt.join " " row).length ≤ 7201 := by rw [len_tl]; exact j3
      have jz : ∀ t ∈ row, t.length ≤ 1000000 := fun t ht => by
        have h1 := wsum_mem (g := tlen) ht
        have h2 := g.sum
        rw [len_tl]
        show tlen t ≤ _
        omega
      dsimp only
      refine seq_asg ?_
      refine ⟨⟨_, rfl⟩, _, rfl, " ", p, row, rfl, rfl, .inl (SqL.of hp7), ?_, ?_⟩
      · have h1 := g.sum
        have h2 := g.len
        rw [sum_len, show ((" " : Str)).length = 1 from rfl]
        omega
      dsimp only
      refine seq_asg ?_
      obtain ⟨xt, st⟩ := say g .term (.inl rfl)
      obtain ⟨xc, sc⟩ := say g .cond (.inr rfl)
      have rw7 : Rw H7 p row := ⟨hp7, g.gt, by have := g.len; omega, jz⟩
      refine ⟨_, rfl, p, row, 0, 200, rfl, rw7, Nat.zero_le _, Nat.le_refl _, ew_of st fun et H8 s8 ft => ?_⟩
      refine ⟨_, rfl, p, row, 0, 200, rfl, rw7.same s8, Nat.zero_le _, Nat.le_refl _, ew_of sc fun ec H9 s9 fc => ?_⟩
      refine ⟨by show 2 ≤ sizeLine; decide, fun L nL => ?_⟩
      obtain ⟨e', kd, x', hke, hkd, sx, fx, ev'⟩ : ∃ (e : Int) (kd : Kd) (x : R), kdOf kz = kd ∧ (kd = .term ∨ kd = .cond) ∧ Say kd row x ∧ Fin row x e ∧ atI [V.int et, V.int ec] kz = some (.int e) := by
        rcases hkz with rfl | rfl
        · exact ⟨et, .term, xt, rfl, .inl rfl, st, ft, rfl⟩
        · exact ⟨ec, .cond, xc, rfl, .inr rfl, sc, fc, rfl⟩
      refine ⟨_, rfl, L, _, _, _, rfl, rfl, SqL.of upd_same, ev', ?_⟩
      have s10 := (s8.trans s9).trans (same_upd (o := .lst [.int et, .int ec]) nL)
      have hp10 := s10 _ _ hp7
      have hR10 := row_same hR7 s10
      dsimp only
      refine seq_asg ?_
      refine ⟨by show 2 ≤ sizeLine; decide, fun F nF => ?_⟩
      have s11 := same_upd (o := .lst [.str "form", .str "node"]) nF
      have hdue : atI [V.str "form", V.str "node"] (if decide (V.int e' = V.int (((row.map V.str).length : Nat) : Int)) = true then 1 else 0) = some (.str (if e' == (row.length : Int) then ("node" : Str) else "form")) := by
        rw [dec_int, List.length_map]
        cases (e' == (row.length : Int)) <;> rfl
      refine ⟨_, rfl, _, rfl, p, _, rfl, .inl (SqL.of (s11 _ _ hp10)), rfl, .inr ⟨_, rfl, F, _, _, _, rfl, rfl, SqL.of upd_same, hdue, ?_⟩⟩
      obtain ⟨d1, d2⟩ := fin_due hkd sx fx j2
      rw [← hke] at d1 d2
      refine seq_asg ?_
      refine ⟨_, rfl, _, rfl, kz, Txt.join " " row, rfl, by omega, fun r er => ?_, d1, fun H12 s12 => ?_⟩
      · rw [j2] at er
        obtain rfl := Option.some.inj er
        exact j4
      refine seq_if (due_if rfl rfl d2 ?_)
      have hR12 := row_same (row_same hR10 s11) s12
      dsimp only
      refine seq_asg ?_
      refine r_pick bads (by decide) fun b H13 s13 kp => ?_
      have hR13 := row_same hR12 s13
      refine ⟨_, rfl, _, rfl, _, _, rfl, rfl, D, _, rfl, hR13, fun y6 g8 g9 => .inl ⟨y6, rfl, _, _, rfl, rfl, by show (0 : Int) < 10; decide, kp _ (by omega) (by show y6 % 10 < 10; omega) fun bd hbd => ?_⟩⟩
      have hz : tl (Txt.join " " row ++ " " ++ bd) = tl (Txt.join " " row) ++ 32 :: tl bd := by
        show TL.tl _ = _
        rw [TL.tl_append, TL.tl_append, List.append_assoc, show TL.tl (" " : Str) = [32] from by decide +kernel]
        rfl
      obtain ⟨b1, b2, b3⟩ := bad_end hkd g hbd hz
      have b4 := (bads_ok bd hbd).2
      rw [← hke] at b3
      refine ⟨_, rfl, _, rfl, _, _, rfl, rfl, ?_, _, rfl, _, _, rfl, rfl, ?_, kz, _, rfl, b1, b2, by rw [b3]; exact fun z => (by cases z), fun H14 s14 => ⟨rfl, _, rfl, ?_⟩⟩
      · show (Txt.join " " row).length + 1 ≤ sizeLine
        exact sl6 (by omega)
      · show (Txt.join " " row ++ " ").length + bd.length ≤ sizeLine
        refine sl6 ?_
        have h1 : (Txt.join " " row ++ " ").length = (Txt.join " " row).length + 1 := by
          rw [len_tl, len_tl]
          show (TL.tl _).length = _
          rw [TL.tl_append, List.length_append]
          rfl
        have h2 : bd.length = tlen bd := len_tl bd
        omega
      rw [b3]
      exact iteF ⟨_, _, _, _, _, _, _, _, _, _, _, _, _, _, rfl, row_same hR13 s14⟩
    · refine ⟨_, rfl, _, rfl, _, _, rfl, rfl, .inl ⟨by decide, by decide⟩, _, _, rfl, rfl, by show 1 ≤ sizeLine; decide, fun S nS => ⟨_, rfl, D, S, e, rfl, by omega, ⟨row_same hR (same_upd nS), ?_, _, upd_same⟩, fun v n H3 bt gn dp hw hdep => ⟨v, n, true, rfl, dp, hw, by omega, ?_, fun H4 s4 => hk _ _ ⟨n, true, rfl, row_same gn.row s4, hw, by omega⟩⟩⟩⟩
      · obtain ⟨xs, h, _⟩ := hR
        exact ne_of_none h nS
      · have := px2400 hw (by omega); omega
    · refine ⟨_, rfl, _, rfl, _, _, rfl, rfl, .inl ⟨by decide, by decide⟩, _, _, rfl, rfl, by show 1 ≤ sizeLine; decide, fun S nS => ⟨_, rfl, D, S, e, rfl, by omega, ⟨row_same hR (same_upd nS), ?_, _, upd_same⟩, fun v n H3 bt gn dp hw hdep => ⟨v, n, false, rfl, dp, hw, by omega, ?_, fun H4 s4 => hk _ _ ⟨n, false, rfl, row_same gn.row s4, hw, by omega⟩⟩⟩⟩
      · obtain ⟨xs, h, _⟩ := hR
        exact ne_of_none h nS
      · have := px2400 hw (by omega); omega
  · have k0 : kdOf 0 = .term := if_pos rfl
    have k1 : kdOf 1 = .cond := if_neg (by decide)
    rintro σ H2 ⟨x2, x3, x4, x5, x6, x7, x8, x9, x10, x11, x12, x13, x14, x15, rfl, hR⟩
    dsimp only
    refine seq_if ?_
    refine ⟨"(", 101, rfl, rfl, by decide, by decide, by decide +kernel, by decide +kernel, by decide +kernel, _, _, rfl, rfl, by decide +kernel, ")", 101, rfl, rfl, by decide, by decide, by decide +kernel, by decide +kernel, by decide +kernel, _, _, rfl, rfl, by decide +kernel, ?_⟩
    refine ⟨by show 9 ≤ sizeLine; decide, fun L nL => ?_⟩
    refine ⟨L, rfl, ⟨_, SqL.of upd_same⟩, for_list (xs := fix0.map V.str) (PvF a D L) ⟨⟨_, _, _, _, _, _, _, _, _, _, _, _, _, _, rfl, row_same hR (same_upd nL)⟩, upd_same⟩ (fun i σ H _ h => SqL.of h.2) ?_ ?_⟩
    · rintro i x σ H3 hx ⟨⟨x2, x3, x4, x5, x6, x7, x8, x9, x10, x11, x12, x13, x14, x15, rfl, hR3⟩, hL⟩
      obtain ⟨z, hz, rfl⟩ := List.mem_map.mp (List.mem_of_getElem? hx)
      refine ⟨_, rfl, ?_⟩
      obtain ⟨c1, c2, c3, c4⟩ := chk_k (k := 0) k0 (fix0_ok z hz)
      refine ⟨0, z, rfl, c1, c2, c3, fun H4 s4 => ⟨rfl, _, rfl, ?_⟩⟩
      rw [c4]
      refine ne_no ?_
      exact ⟨⟨_, _, _, _, _, _, _, _, _, _, _, _, _, _, rfl, row_same hR3 s4⟩, s4 _ _ hL⟩
    · rintro σ H3 ⟨⟨x2, x3, x4, x5, x6, x7, x8, x9, x10, x11, x12, x13, x14, x15, rfl, hR3⟩, hL⟩
      dsimp only
      refine seq_asg ?_
      refine ⟨"not ", 50, rfl, rfl, by decide, by decide, by decide +kernel, by decide +kernel, by decide +kernel, "[", 51, rfl, rfl, by decide, by decide, by decide +kernel, by decide +kernel, by decide +kernel, _, _, rfl, rfl, by decide +kernel, _, _, rfl, rfl, by decide +kernel, "]", 51, rfl, rfl, by decide, by decide, by decide +kernel, by decide +kernel, by decide +kernel, _, _, rfl, rfl, by decide +kernel, ?_⟩
      rw [show rpt 50 "not " ++ rpt 51 "[" ++ "yes" ++ rpt 51 "]" = zD from rfl]
      refine seq_if ?_
      obtain ⟨c1, c2, c3, c4⟩ := chk_k (k := 1) k1 fix1
      refine ⟨1, "", rfl, c1, c2, c3, fun H4 s4 => ⟨rfl, _, rfl, ?_⟩⟩
      rw [c4]
      refine ne_no ?_
      refine ⟨_, rfl, ?_⟩
      obtain ⟨c1, c2, c3, c4⟩ := chk_k (k := 1) k1 fixD
      refine ⟨1, zD, rfl, c1, c2, c3, fun H5 s5 => ⟨rfl, _, rfl, ?_⟩⟩
      rw [c4]
      refine ne_no ?_
      refine ⟨_, rfl, zD, rfl, by decide +kernel, by decide +kernel, by decide +kernel, by decide +kernel, rp1 zD "[" "", rfl, by decide +kernel, by decide +kernel, by decide +kernel, by decide +kernel, ?_⟩
      obtain ⟨c1, c2, c3, c4⟩ := chk_k (k := 1) k1 fixR
      refine ⟨1, (rp1 (rp1 zD "[" "") "]" ""), rfl, c1, c2, c3, fun H6 s6 => ⟨rfl, _, rfl, ?_⟩⟩
      rw [c4]
      refine ne_no ?_
      refine ⟨"(", 100, rfl, rfl, by decide, by decide, by decide +kernel, by decide +kernel, by decide +kernel, _, _, rfl, rfl, by decide +kernel, ")", 100, rfl, rfl, by decide, by decide, by decide +kernel, by decide +kernel, by decide +kernel, _, _, rfl, rfl, by decide +kernel, ?_⟩
      obtain ⟨c1, c2, c3, c4⟩ := chk_k (k := 0) k0 fixA
      refine ⟨0, zA, rfl, c1, c2, c3, fun H7 s7 => ⟨rfl, _, rfl, ?_⟩⟩
      rw [c4]
      refine eq_yes ?_
      refine ⟨"[", 100, rfl, rfl, by decide, by decide, by decide +kernel, by decide +kernel, by decide +kernel, _, _, rfl, rfl, by decide +kernel, "]", 100, rfl, rfl, by decide, by decide, by decide +kernel, by decide +kernel, by decide +kernel, _, _, rfl, rfl, by decide +kernel, ?_⟩
      obtain ⟨c1, c2, c3, c4⟩ := chk_k (k := 1) k1 fixY
      refine ⟨1, zY, rfl, c1, c2, c3, fun H8 s8 => ⟨rfl, ?_⟩⟩
      rw [c4]
      rw [decide_eq_true (rfl : V.str "node" = V.str "node")]
      exact k _
end
end KT

namespace KT
open PySem PySem.Spec
open PyProof.Rows L2 KM
theorem law_ends {P : Program} {w : World} {K : PySem.W.Frag} {mg : Str → Option Value} {fa : Addr} {h : Heap} (KX : K.In h) (G : h.Ns mainGlobals mg) (c : Says w h K) (hfa : mg "law" = some (.ref fa)) :
    ∃ fd : FuncData, (∀ (s : Shared) (v : Value), BindsTo s fd ⟨[v], []⟩ [("_law_script", v)]) ∧ ∀ base : Heap, FnOk P w K mg base (L2.CX P w) 223 fa fd ["_law_script"] (spLaw K) := by
  have T : Tp w K mg := ⟨h, KX, G, c⟩
  obtain ⟨fd, F⟩ := T.f_law
  have e : fa = He.ga K "law" := Value.ref.inj (Option.some.inj (hfa.symm.trans T.g_law))
  subst e
  have b := FunD.bindsA (ps := ["_law_script"]) F fun _ _ _ _ _ _ us hl => match us, hl with
    | [_], _ => rfl
  exact ⟨fd, fun s v => b s [v] rfl, fun base => ok_law T F⟩
/-- the law's end: what is in the air is of each world's own -/
theorem ends_w {q : Program} {names : List Str} {XP : (Str → Option Value) → Heap → Prop} {d : DefRec}
    (hn : (PySem.Challenge.rw_diesnon_k10_whole_any_text).most = some 63) (hd0 : d.params.defaults = []) (hdn : d.name = "law") :
    PySem.W.WalkO q names XP (fun w h => ∃ K, K.In h ∧ Says w h K) (PySem.Challenge.rw_diesnon_k10_whole_any_text).row.toRowW d [] (fun f vs => PySem.call f vs) := by
  refine Att.attach_call hn hd0 fun w sA sB mg mb fa oo pp cc dc
    a vs ns G Y u1 u2 u3 hmg hobj hints hlen hg => ?_
  obtain ⟨K, KX, c⟩ := Y
  rw [hdn] at hmg
  obtain ⟨fd, hb, hF⟩ := law_ends (P := (PySem.Challenge.rw_diesnon_k10_whole_any_text).prog) KX G.T.g c hmg
  refine law_call (k := 223) KX G.T.g G.T.b G.T.builtins G.T.nolimit hg hobj hints
    (Nat.le_trans hlen (by decide)) ⟨rfl, by decide, by decide⟩ (fun base _ _ => hF base) hb
    (fun H _ hS => ⟨a, ns, rfl, hS, hlen, fun _ => rfl⟩) fun H e s' z => ?_
  obtain ⟨_, _, _, _, _, _, _, _, _, _, _, _, bad⟩ := z
  exact bad
end KT
open PySem PySem.W
open PySem.Calls PyProof.Rows
theorem PySem.Challenge.cw_diesnon_k10_whole_any_text_holds : PySem.Challenge.rw_diesnon_k10_whole_any_text.Holds := by
  w_on; o_law
  refine HandSHeadRun.head_any (r := KH.R)
    (q := view KH.R.prog [67]) (H := KH.hk) (ob := KH.ob) (M := 4000) (loose := KH.looseN)
    (d := HandSHeadRun.topDef KH.R.prog 67) (kwd := []) KH.ob_eq
    (by kernel_rfl) (fun s => by kernel_rfl) KH.run (by kernel_rfl) (by kernel_rfl) (by kernel_rfl)
    (by rfl) (by first | assumption | decide +kernel) (by decide +kernel)
    ⟨rfl, rfl, rfl, rfl, rfl, by decide +kernel⟩ ?hw ?hc
  case hw => w_witness2
  case hc =>
    exact KT.ends_w rfl (by kernel_rfl) (by kernel_rfl)

