import PyProof.Rows.All
import Wide.All
import OpenK.AllK
import Wide.FinOn
import KE.KStateDown
import HandS.Base
import HandS.Call
import HandS.List
import HandS.Comp
import HandS.Ends
import HandS.Dict
import HandS.Iter
import HandS.More
import HandS.Text
import HandS.Words
import HandS.WordsExc
import HandS.WordsDict
import HandS.WordsList
import HandS.Exc
import HandS.ExcInit
import HandS.ExcIs
import HandS.ExcField
import HandS.Defaults
import HandS.Head0
import HandS.Head1
import HandS.Head2
import HandS.Head3
import HandS.HeadEnd
import HandS.HeadHook1
import HandS.HeadHook2
import HandS.HeadHook3
import HandS.HeadHook4
import HandS.HeadWalk
import HandS.EndTab
import HandS.AnyAll
import HandS.GenList
import HandS.IsInst
import HandS.TupMul
import HandS.Zip
import HandS.TupSets
import KE.KeyNested
import KE.SortData
import HandS.SetFor
import KE.DataCmp
import HandS.Style
import KE.KExcIs
import HandS.Walk
import PyProof.ReprRoads
import PyProof.Rows.RegFStrParts
import HandS.TupAny
import PySem.Challenge.RW_wholecounts_k74_refusals_of_consoles
/-! ## B0 -/
set_option Elab.async false
set_option linter.all false
set_option maxRecDepth 100000
set_option maxHeartbeats 4000000
namespace K74
open PySem PySem.Spec PyProof.Rows L2 He
def top (i : Nat) : Stmt := PySem.Challenge.pw_wholecounts_k74_refusals_of_consoles.main.body.getD i (.Pass ⟨0, 0, 0, 0⟩)
abbrev s_CountError_dinit : Stmt := inClass (top 2) 0
abbrev s_is_integer : Stmt := top 19
abbrev s_is_between : Stmt := top 21
abbrev s_are_integers : Stmt := top 22
abbrev s_are_naturals : Stmt := top 23
abbrev s_is_ascending : Stmt := top 24
abbrev s_is_rule : Stmt := top 26
abbrev s_is_grammar : Stmt := top 27
abbrev s_check_grammar : Stmt := top 28
abbrev s_is_name : Stmt := top 197
abbrev s_Console_dinit : Stmt := inClass (top 207) 0
abbrev s_Console_change : Stmt := inClass (top 207) 1
abbrev s_Console_put : Stmt := inClass (top 207) 2
abbrev s_Console_keep : Stmt := inClass (top 207) 3
abbrev s_Console_drop : Stmt := inClass (top 207) 4
abbrev s_Console_undo : Stmt := inClass (top 207) 5
abbrev s_Console_names : Stmt := inClass (top 207) 6
abbrev s_Console_grammar : Stmt := inClass (top 207) 7
abbrev s_Console_dlen : Stmt := inClass (top 207) 8
abbrev s_Console_dcontains : Stmt := inClass (top 207) 9
abbrev s_law_source : Stmt := top 209
abbrev s_law_onward : Stmt := top 210
abbrev s_law_draw : Stmt := top 211
abbrev s_law_grammar : Stmt := top 212
abbrev s_law_spread : Stmt := top 213
abbrev s_law_kinds : Stmt := top 214
abbrev s_law_is_due : Stmt := top 215
abbrev s_law_bad_names : Stmt := top 216
abbrev s_law_bad_grammar : Stmt := top 217
abbrev s_law_call : Stmt := top 218
abbrev s_law_refused : Stmt := top 219
abbrev s_law : Stmt := top 220
def fnL : List He.DefD := [
  ⟨("CountError", some "__init__"), "__init__", "CountError.__init__", defArgs s_CountError_dinit, defBody s_CountError_dinit, defScope s_CountError_dinit, [], []⟩,
  ⟨("is_integer", none), "is_integer", "is_integer", defArgs s_is_integer, defBody s_is_integer, defScope s_is_integer, [], []⟩,
  ⟨("is_between", none), "is_between", "is_between", defArgs s_is_between, defBody s_is_between, defScope s_is_between, [], []⟩,
  ⟨("are_integers", none), "are_integers", "are_integers", defArgs s_are_integers, defBody s_are_integers, defScope s_are_integers, [], []⟩,
  ⟨("are_naturals", none), "are_naturals", "are_naturals", defArgs s_are_naturals, defBody s_are_naturals, defScope s_are_naturals, [], []⟩,
  ⟨("is_ascending", none), "is_ascending", "is_ascending", defArgs s_is_ascending, defBody s_is_ascending, defScope s_is_ascending, [], []⟩,
  ⟨("is_rule", none), "is_rule", "is_rule", defArgs s_is_rule, defBody s_is_rule, defScope s_is_rule, [], []⟩,
  ⟨("is_grammar", none), "is_grammar", "is_grammar", defArgs s_is_grammar, defBody s_is_grammar, defScope s_is_grammar, [], []⟩,
  ⟨("check_grammar", none), "check_grammar", "check_grammar", defArgs s_check_grammar, defBody s_check_grammar, defScope s_check_grammar, [], []⟩,
  ⟨("is_name", none), "is_name", "is_name", defArgs s_is_name, defBody s_is_name, defScope s_is_name, [], []⟩,
  ⟨("Console", some "__init__"), "__init__", "Console.__init__", defArgs s_Console_dinit, defBody s_Console_dinit, defScope s_Console_dinit, [], []⟩,
  ⟨("Console", some "_change"), "_change", "Console._change", defArgs s_Console_change, defBody s_Console_change, defScope s_Console_change, [], []⟩,
  ⟨("Console", some "_put"), "_put", "Console._put", defArgs s_Console_put, defBody s_Console_put, defScope s_Console_put, [], []⟩,
  ⟨("Console", some "keep"), "keep", "Console.keep", defArgs s_Console_keep, defBody s_Console_keep, defScope s_Console_keep, [], []⟩,
  ⟨("Console", some "drop"), "drop", "Console.drop", defArgs s_Console_drop, defBody s_Console_drop, defScope s_Console_drop, [], []⟩,
  ⟨("Console", some "undo"), "undo", "Console.undo", defArgs s_Console_undo, defBody s_Console_undo, defScope s_Console_undo, [], []⟩,
  ⟨("Console", some "names"), "names", "Console.names", defArgs s_Console_names, defBody s_Console_names, defScope s_Console_names, [], []⟩,
  ⟨("Console", some "grammar"), "grammar", "Console.grammar", defArgs s_Console_grammar, defBody s_Console_grammar, defScope s_Console_grammar, [], []⟩,
  ⟨("Console", some "__len__"), "__len__", "Console.__len__", defArgs s_Console_dlen, defBody s_Console_dlen, defScope s_Console_dlen, [], []⟩,
  ⟨("Console", some "__contains__"), "__contains__", "Console.__contains__", defArgs s_Console_dcontains, defBody s_Console_dcontains, defScope s_Console_dcontains, [], []⟩,
  ⟨("_law_source", none), "_law_source", "_law_source", defArgs s_law_source, defBody s_law_source, defScope s_law_source, [], []⟩,
  ⟨("_law_onward", none), "_law_onward", "_law_onward", defArgs s_law_onward, defBody s_law_onward, defScope s_law_onward, [], []⟩,
  ⟨("_law_draw", none), "_law_draw", "_law_draw", defArgs s_law_draw, defBody s_law_draw, defScope s_law_draw, [], []⟩,
  ⟨("_law_grammar", none), "_law_grammar", "_law_grammar", defArgs s_law_grammar, defBody s_law_grammar, defScope s_law_grammar, [], []⟩,
  ⟨("_law_spread", none), "_law_spread", "_law_spread", defArgs s_law_spread, defBody s_law_spread, defScope s_law_spread, [], []⟩,
  ⟨("_law_kinds", none), "_law_kinds", "_law_kinds", defArgs s_law_kinds, defBody s_law_kinds, defScope s_law_kinds, [], []⟩,
  ⟨("_law_is_due", none), "_law_is_due", "_law_is_due", defArgs s_law_is_due, defBody s_law_is_due, defScope s_law_is_due, [], []⟩,
  ⟨("_law_bad_names", none), "_law_bad_names", "_law_bad_names", defArgs s_law_bad_names, defBody s_law_bad_names, defScope s_law_bad_names, [], []⟩,
  ⟨("_law_bad_grammar", none), "_law_bad_grammar", "_law_bad_grammar", defArgs s_law_bad_grammar, defBody s_law_bad_grammar, defScope s_law_bad_grammar, [], []⟩,
  ⟨("_law_call", none), "_law_call", "_law_call", defArgs s_law_call, defBody s_law_call, defScope s_law_call, [], []⟩,
  ⟨("_law_refused", none), "_law_refused", "_law_refused", defArgs s_law_refused, defBody s_law_refused, defScope s_law_refused, [], []⟩,
  ⟨("law", none), "law", "law", defArgs s_law, defBody s_law, defScope s_law, [], []⟩]
def faL : List He.Fa := [
  .glo "is_integer",
  .glo "is_between",
  .glo "are_integers",
  .glo "are_naturals",
  .glo "is_ascending",
  .glo "is_rule",
  .glo "is_grammar",
  .glo "check_grammar",
  .glo "is_name",
  .glo "_law_source",
  .glo "_law_onward",
  .glo "_law_draw",
  .glo "_law_grammar",
  .glo "_law_spread",
  .glo "_law_kinds",
  .glo "_law_is_due",
  .glo "_law_bad_names",
  .glo "_law_bad_grammar",
  .glo "_law_call",
  .glo "_law_refused",
  .glo "law",
  .glo "Console",
  .glo "CountError",
  .glo "InvalidAnswer",
  .glo "InvalidCount",
  .glo "InvalidGrammar",
  .glo "InvalidMachine",
  .glo "InvalidName",
  .glo "InvalidNumber",
  .glo "InvalidPair",
  .glo "InvalidPrices",
  .glo "InvalidSaying",
  .glo "InvalidVariables",
  .glo "NothingToUndo",
  .glo "TooMany",
  .glo "UnknownName",
  .glo "Unorderly",
  .glo "Unreadable",
  .free "len",
  .free "isinstance",
  .free "int",
  .free "bool",
  .free "tuple",
  .free "str",
  .free "all",
  .free "range",
  .free "abs",
  .free "sorted",
  .free "set",
  .free "list",
  .free "repr",
  .free "zip",
  .free "ValueError",
  .int "MOST_SIGNS" 8,
  .str "LETTERS" "abcdefghijklmnopqrstuvwxyz",
  .cls "Console",
  .noat "Console" "_kept",
  .noat "Console" "_past",
  .meth "Console" "_change",
  .meth "Console" "_put",
  .meth "Console" "keep",
  .meth "Console" "drop",
  .meth "Console" "undo",
  .meth "Console" "names",
  .meth "Console" "grammar",
  .meth "Console" "__len__",
  .meth "Console" "__contains__",
  .mkr "Console"]
def tfL : List He.Defn := [("are_integers", none), ("are_naturals", none), ("is_ascending", none), ("is_grammar", none), ("is_name", none)]
def excL : List Str := ["InvalidAnswer", "InvalidCount", "InvalidGrammar", "InvalidMachine", "InvalidName", "InvalidNumber", "InvalidPair", "InvalidPrices", "InvalidSaying", "InvalidVariables", "NothingToUndo", "TooMany", "UnknownName", "Unorderly", "Unreadable"]
/-! ### facts of an exception's class -/
def oexB (K : PySem.W.Frag) (C : Addr) : Bool := (match K.lookup C with
  | some ⟨.type "type", _, .cls cd, sl⟩ => (match cd.mro, sl.toList with
    | .ref C' :: bm, [_, _, _, _, some (.builtin n), _] => (C' == C && n == "ValueError.__new__" && !cd.hasDel && cd.hasDict) && PySem.HandSPX.refsVE bm
    | _, _ => false)
  | _ => false) && (eqO (PySem.W.findIn K (.ref C) "__setattr__") (some (some (.builtin "object.__setattr__"))) && (decide (PySem.W.subIn K (.ref C) (.type "BaseException") = some true) && (decide (PySem.W.typeIn K (.ref C) = some (.type "type")) && PySem.W.keepIn K (.ref C))))
theorem oexB_ok {K : PySem.W.Frag} {C : Addr} (h : oexB K C = true) : OexC K C := by
  obtain ⟨h0, h⟩ := ba h
  obtain ⟨h1, h⟩ := ba h
  obtain ⟨h2, h⟩ := ba h
  obtain ⟨h3, h4⟩ := ba h
  refine ⟨?_, eqO_ok h1, of_decide_eq_true h2, of_decide_eq_true h3, h4⟩
  split at h0
  · rename_i dd cd sl ho
    split at h0
    · rename_i C' bm k0 k1 k2 k3 n k5 hm hs
      simp only [Bool.and_eq_true, beq_iff_eq, Bool.not_eq_true'] at h0
      obtain ⟨⟨⟨⟨rfl, rfl⟩, hdel⟩, hdict⟩, ht⟩ := h0
      obtain ⟨nm, bs, mro, ns, qn, hd, sn, sub, ab, col, del⟩ := cd
      dsimp only at hm hdel hdict
      subst hm hdel hdict
      have hsl : sl = #[k0, k1, k2, k3, some (.builtin "ValueError.__new__"), k5] := by
        obtain ⟨l⟩ := sl
        simp only at hs
        rw [hs]
      subst hsl
      exact ⟨nm, qn, ns, bs, bm, sn, sub, ab, col, dd, k0, k1, k2, k3, k5, ho, ht⟩
    · cases h0
  · cases h0
/-- isinstance asks its instances rightly -/
def excCB (K : PySem.W.Frag) (D : Addr) : Bool := eqO (PySem.W.findIn K (.ref D) "__getattribute__") (some (some (.builtin "BaseException.__getattribute__"))) && (eqO (PySem.W.findIn K (.ref D) "__getattr__") (some none) && (decide (PySem.W.subIn K (.ref D) (.type "BaseException") = some true) && (PySem.W.hasDictIn K D &&
  (eqO (PySem.W.findIn K (.ref D) "__class__") (some (some (.builtin "object.__class__"))) && (decide (PySem.W.specialIn K (.builtin "object.__class__") "__get__" = some (some (.builtin "getset_descriptor.__get__"))) && (decide (PySem.W.takesIn K (.builtin "object.__class__") = some true) && decide (PySem.W.mroIn K D (.type "object") = some true)))))))
theorem excCB_ok {K : PySem.W.Frag} {D : Addr} (h : excCB K D = true) : ExcC K D := by
  obtain ⟨h1, h⟩ := ba h
  obtain ⟨h2, h⟩ := ba h
  obtain ⟨h3, h⟩ := ba h
  obtain ⟨h4, h⟩ := ba h
  obtain ⟨h5, h⟩ := ba h
  obtain ⟨h6, h⟩ := ba h
  obtain ⟨h7, h8⟩ := ba h
  exact ⟨eqO_ok h1, eqO_ok h2, of_decide_eq_true h3, h4, eqO_ok h5, of_decide_eq_true h6, of_decide_eq_true h7, of_decide_eq_true h8⟩
/-- what is asked of each class of the package's errors -/
def excOneB (K : PySem.W.Frag) (x : Str) : Bool := oexB K (ga K x) && (excCB K (ga K x) && (eqO (PySem.W.findIn K (.ref (ga K x)) "__init__") (some (some (.ref (ma K (ga K "CountError") "__init__")))) && (eqO (PySem.W.findIn K (.ref (ga K x)) "value") (some none) &&
  (decide (PySem.W.exmOne K (.ref (ga K x)) (.ref (ga K "CountError")) = some true) && (decide (PySem.W.kitOne K (.ref (ga K x)) (.type "ValueError") = some true) && excL.all fun y => decide (PySem.W.kitOne K (.ref (ga K x)) (.ref (ga K y)) = some (decide (x = y))))))))
def exB (K : PySem.W.Frag) : Bool := decide (PySem.W.typeIn K (.ref (ma K (ga K "CountError") "__init__")) = some (.type "function")) && excL.all fun x => excOneB K x
/-! ### the head -/
abbrev R : PySem.W.OpenRow := PySem.W.OpenLaw.row PySem.Challenge.rw_wholecounts_k74_refusals_of_consoles
abbrev qv : Program := PySem.W.view R.prog [0, 220]
abbrev hk : PySem.W.Hook := He.hookX 5 faL fnL [] tfL exB
def ob (s : PySem.W.SharedT) : He.AlX := He.obsX 5 faL fnL [] tfL exB (HandSHeadRun.getT s)
theorem ob_eq (s : PySem.W.SharedT) : ob s = hk.obs s.abs := He.obsX_eq (HandSHeadRun.getT_eq s)
def nm0 : List PySem.Str := ["CountError", "InvalidNumber", "InvalidCount", "InvalidGrammar", "InvalidMachine", "InvalidPair", "InvalidVariables", "InvalidSaying", "InvalidPrices", "InvalidAnswer", "TooMany", "InvalidName", "UnknownName", "NothingToUndo", "Unreadable", "Unorderly", "is_integer", "is_natural", "is_between", "are_integers", "are_naturals", "is_ascending", "is_rule", "is_grammar", "check_grammar", "check_count", "has_only", "closing", "useful"]
def nm1 : List PySem.Str := ["one_name", "with_start", "MOST", "check_most", "check_machine_size", "plus", "scaled", "is_below", "sum_key", "numbered", "led_back", "letter_of", "digits_of", "word_in", "nothing", "sorted_out", "least_of", "machine_from", "takes_in", "first_in", "unlike_in", "turned", "both_in", "either_in", "letter_map", "arranged_in", "put_in", "some_in", "every_in", "letters_made"]
def nm2 : List PySem.Str := ["left_open", "has_roads", "halved", "moved_in", "stepped_in", "only_zero", "product", "one_more", "least_of_columns", "least_in", "spread_row", "matrix_of", "round_list", "least_list", "truths_of", "rules_within", "leading_sets", "reaches_all", "name_sets", "families_of_rows", "stepping", "counts_in", "how_often", "row_in", "row_for", "own_family", "check_family_sizes", "known_counts", "check_two", "check_two_compares"]
def nm3 : List PySem.Str := ["unlike", "check_asked", "check_asked_counts", "counts_machine", "is_count", "numbers_below", "counts_below", "price_in", "check_prices", "live_rules", "worth_by", "worth_of_bag", "row_by", "bettered", "least_worths", "endless_paper", "least_price_in", "least_price", "SUMS", "JOINED", "TRIED", "is_atom_form", "is_saying", "check_saying", "inner_parts", "is_atom", "free_of", "is_about", "NONE", "BETWEEN_texts"]
def nm4 : List PySem.Str := ["AHEAD", "show_numbers", "show_grammar", "show_saying", "DIGITS", "MOST_DIGITS", "MOST_DEPTH", "integer_of", "integers_of", "numbers_of", "pieces_of", "single", "grammar_in", "depth_of", "ended", "atom_from", "saying_from", "saying_in", "read_numbers", "read_grammar", "read_saying", "made", "is_less", "ENDLESS", "priced", "shares_with", "higher", "greatest_in", "check_two_shares", "greatest_share"]
def nm5 : List PySem.Str := ["sum_machine", "rest_machine", "machine_of_atom", "check_about", "check_meaning", "placed", "joined_part", "tried_part", "part_machine", "meaning_in", "check_asked_truths", "decided", "LETTERS", "MOST_SIGNS", "BETWEEN_orders", "ALONE", "ARGUMENTS", "is_name", "read_name", "read_level", "read_argument", "read_let", "read_order", "price_answer", "share_answer", "answered", "Console", "_law_source", "_law_onward", "_law_draw"]
def nm6 : List PySem.Str := ["_law_grammar", "_law_spread", "_law_kinds", "_law_is_due", "_law_bad_names", "_law_bad_grammar", "_law_call", "_law_refused"]
def names : List PySem.Str := nm0 ++ nm1 ++ nm2 ++ nm3 ++ nm4 ++ nm5 ++ nm6
end K74
/-! ## Mz -/
set_option Elab.async false
set_option linter.all false
set_option maxRecDepth 100000
set_option maxHeartbeats 0
/-! the symbol tables, looked at in pieces -/
namespace Tw
open PySem PySem.TablesWhole
section
variable {top : Scope} {cx : TablesWhole.Ctx} {sc : Scope}
theorem wSs_cut (n : Nat) : ∀ xs : List Stmt, wSs holds top cx sc (xs.take n) = true → wSs holds top cx sc (xs.drop n) = true → wSs holds top cx sc xs = true := by
  induction n with
  | zero => exact fun xs _ h => h
  | succ n ih =>
    intro xs h1 h2
    cases xs with
    | nil => exact h2
    | cons x xs =>
      rw [List.take_succ_cons] at h1
      rw [List.drop_succ_cons] at h2
      unfold wSs at h1 ⊢
      have h1 : (wS holds top cx sc x && wSs holds top cx sc (xs.take n)) = true := h1
      show (wS holds top cx sc x && wSs holds top cx sc xs) = true
      obtain ⟨a, b⟩ := Bool.and_eq_true_iff.mp h1
      rw [a, ih xs b h2] <;> rfl
theorem tab_cut {m k : Nat} (n : Nat) {xs : List Stmt} (e : m + n = k) (h1 : wSs holds top cx sc ((xs.drop m).take n) = true) (h2 : wSs holds top cx sc (xs.drop k) = true) : wSs holds top cx sc (xs.drop m) = true :=
  wSs_cut n _ h1 (by rw [List.drop_drop, e]; exact h2)
theorem tw_of {p : Program} {g : List Str} (h1 : p.modules = []) (h2 : p.parses = []) (h3 : p.harvested = []) (a : noTwice p.main.scope = true) (t : wSs gather p.main.scope ⟨p.main.scope, [], [], [], none⟩ p.main.scope p.main.body = g)
    (b : wSs holds p.main.scope ⟨p.main.scope, [], g, [], none⟩ p.main.scope (p.main.body.drop 0) = true) : p.tablesWhole = true := by
  unfold Program.tablesWhole wProgram wModule
  rw [h1, h2, h3, t]
  rw [List.drop_zero] at b
  show ((true && (noTwice p.main.scope && (wSs holds p.main.scope ⟨p.main.scope, [], g, [], none⟩ p.main.scope p.main.body && true))) && (true && (true && (true && true)))) = true
  rw [a, b] <;> rfl
end
end Tw
open PySem PySem.W PySem.Calls PyProof.Rows in
/-- the looks at the row -/
theorem K74.z_law (h : (OpenLaw.row PySem.Challenge.rw_wholecounts_k74_refusals_of_consoles).wellSaid = true → (OpenLaw.row PySem.Challenge.rw_wholecounts_k74_refusals_of_consoles).Holds) : PySem.Challenge.rw_wholecounts_k74_refusals_of_consoles.Holds := by
  w_on; o_law
  exact h ‹_›
namespace K74
open PySem PySem.W PySem.Calls PyProof.Rows He HandSHeadRun L2 PySem.TablesWhole
theorem z_def : defOf qv R.name = some (topDef R.prog 220, []) := by kernel_rfl
theorem z_thedef : R.prog.theDef R.name = some ((topDef R.prog 220).params, (topDef R.prog 220).body, (topDef R.prog 220).scope) := by kernel_rfl
theorem z_kw : kwWritten? (topDef R.prog 220).params.kwonlyargs (topDef R.prog 220).params.kw_defaults = some [] := by kernel_rfl
theorem z_wr : (!R.writes || R.records.isEmpty) = true := by rfl
theorem z_chains : chainsOk qv = true := by decide +kernel
theorem z_opens : opensWell R.prog = true := by decide +kernel
theorem z_frees : (frees R.toRowW && R.within.isEmpty) = true := by decide +kernel
theorem z_ok : (chainsOk qv && opensWell R.prog && (frees R.toRowW && R.within.isEmpty)) = true := by
  rw [z_chains, z_opens, z_frees] <;> rfl
theorem z_name : (topDef R.prog 220).name = ("law" : PySem.Str) := by kernel_rfl
def cxT : TablesWhole.Ctx := ⟨R.prog.main.scope, [], [], [], none⟩
theorem z_told : wSs gather R.prog.main.scope ⟨R.prog.main.scope, [], [], [], none⟩ R.prog.main.scope R.prog.main.body = [] := by kernel_rfl
theorem z_twice : noTwice R.prog.main.scope = true := by kernel_rfl
theorem z_t0 : wSs holds R.prog.main.scope cxT R.prog.main.scope ((R.prog.main.body.drop 0).take 28) = true := by kernel_rfl
theorem z_t28 : wSs holds R.prog.main.scope cxT R.prog.main.scope ((R.prog.main.body.drop 28).take 28) = true := by kernel_rfl
theorem z_t56 : wSs holds R.prog.main.scope cxT R.prog.main.scope ((R.prog.main.body.drop 56).take 28) = true := by kernel_rfl
theorem z_t84 : wSs holds R.prog.main.scope cxT R.prog.main.scope ((R.prog.main.body.drop 84).take 28) = true := by kernel_rfl
theorem z_t112 : wSs holds R.prog.main.scope cxT R.prog.main.scope ((R.prog.main.body.drop 112).take 28) = true := by kernel_rfl
theorem z_t140 : wSs holds R.prog.main.scope cxT R.prog.main.scope ((R.prog.main.body.drop 140).take 28) = true := by kernel_rfl
theorem z_t168 : wSs holds R.prog.main.scope cxT R.prog.main.scope ((R.prog.main.body.drop 168).take 28) = true := by kernel_rfl
theorem z_t196 : wSs holds R.prog.main.scope cxT R.prog.main.scope ((R.prog.main.body.drop 196).take 28) = true := by kernel_rfl
theorem z_tabs : wSs holds R.prog.main.scope cxT R.prog.main.scope (R.prog.main.body.drop 0) = true := (Tw.tab_cut 28 rfl z_t0 (Tw.tab_cut 28 rfl z_t28 (Tw.tab_cut 28 rfl z_t56 (Tw.tab_cut 28 rfl z_t84 (Tw.tab_cut 28 rfl z_t112 (Tw.tab_cut 28 rfl z_t140 (Tw.tab_cut 28 rfl z_t168 (Tw.tab_cut 28 rfl z_t196 (show wSs holds R.prog.main.scope cxT R.prog.main.scope (R.prog.main.body.drop 224) = true by kernel_rfl)))))))))
theorem z_bare : R.prog.bare := ⟨rfl, rfl, rfl, rfl, rfl, Tw.tw_of rfl rfl rfl z_twice z_told z_tabs⟩
end K74
/-! ## Gx -/
set_option Elab.async false
set_option linter.all false
set_option maxRecDepth 100000
set_option maxHeartbeats 4000000
/-! all(..), any(..) of a generator expression whose element may call -/
namespace Gx
open PySem PySem.Spec PyProof.Rows L2 GenW GxR

/-- the context of a generator expression's frame -/
abbrev Cxg (X : Cx) (s : Shared) (H : Hp) (cenv : Env) (fp : List Addr) (B : Around) (pn : List (Addr × Obj)) : Cx :=
  { X with A := B, s_0 := s, H_0 := H, env := cenv, outer := X.stack, stack := cenv :: X.stack, ex := fp, fn := fun _ => false, calm := true, pn := pn, xe := fun _ _ => False }

theorem Inv.re {X : Cx} {pins : List (Addr × Obj)} {σ : L2.St} {H : Hp} {s s' : Shared} (I : Inv X pins σ H s) (ho : s'.os = s.os) (hh : s'.heap = s.heap) (hg : AllBare s'.gens) : Inv X pins σ H s' :=
  ⟨I.ok, ho.trans I.os, hg, hh ▸ I.base, hh ▸ I.loc, hh ▸ I.cell, I.free, I.freeC, hh ▸ I.pin, hh ▸ I.hok, I.len⟩

section
variable {X : Cx} {pins : List (Addr × Obj)} {σ : L2.St} {H : Hp} {s : Shared}
theorem gen_start {scope : Scope} {own : List (Str × Nat)} {fp : List Addr} {code : Value} {B : Around} {a : Addr} {go : Obj} {m : Str → Option Value} {s' : Shared}
    (I : Inv X pins σ H s) (ok : BlkOk X.N X.env.scope scope own) (hN : X.N.Nodup) (nocell : ∀ y ∈ scope.names, y.2 ≠ .cell)
    (hfp : ∀ b ∈ fp, FpOk X pins H b ∧ b < s.heap.objs.size) (hB : B.handled = none)
    (hF : B.frames = some (genEnv scope (cloFrom X.env.cells scope.names []) s.heap.objs.size code builtinsNs X.env :: X.stack))
    (kp : ∀ b o, s.heap.get? b = some o → s'.heap.get? b = some o) (hns : s'.heap.Ns s.heap.objs.size m)
    (ha : s'.heap.get? a = some go) (haS : s.heap.objs.size < a) (hgo : ∀ v, go.data ≠ .cell v) (hos : s'.os = s.os) (hbare : AllBare s'.gens) :
    Inv (Cxg X s H (genEnv scope (cloFrom X.env.cells scope.names []) s.heap.objs.size code builtinsNs X.env) fp B [(a, go)]) [] (wipe σ (own.map (·.2))) H s' := by
  have hfree : ∀ y ∈ scope.names, y.2 = .free → ∃ c, X.env.cells.lookup y.1 = some c := fun y hy e => by
    rcases ok.free y hy e with k | k
    · exact I.ok.has _ (.inl k)
    · exact I.ok.has _ (.inr k)
  generalize hcenv : genEnv scope (cloFrom X.env.cells scope.names []) s.heap.objs.size code builtinsNs X.env = cenv at hF ⊢
  have hL : cenv.locals = s.heap.objs.size := by rw [← hcenv]; rfl
  have hcl : cenv.cells = cloFrom X.env.cells scope.names [] := by rw [← hcenv]; rfl
  have hsc : cenv.scope = scope := by rw [← hcenv]; rfl
  have mem : ∀ {y c}, cenv.cells.lookup y = some c → X.env.cells.lookup y = some c ∧ c < s.heap.objs.size := fun {y c} e => by
    rw [hcl] at e
    rcases cloFrom_mem (PySem.mem_of_lookup e) with hm | ⟨h1, h2⟩
    · cases hm
    · obtain ⟨c', hc⟩ := hfree _ h1 rfl
      rw [hc] at h2
      have h2 : c = c' := h2
      subst h2
      obtain ⟨w, z⟩ := I.cell _ _ hc
      exact ⟨hc, z.lt⟩
  have look : ∀ {y}, scope.names.lookup y = some .free → ∃ c, cenv.cells.lookup y = some c ∧ X.env.cells.lookup y = some c := fun {y} hl => by
    have hy : (y, NameKind.free) ∈ scope.names := PySem.mem_of_lookup hl
    obtain ⟨c', e'⟩ := mem_lookup (cloFrom_has (cells := X.env.cells) (acc := []) hy)
    rw [← hcl] at e'
    exact ⟨c', e', (mem e').1⟩
  have stkLt : ∀ b ∈ frs X.stack, b < s.heap.objs.size := fun b hb => by
    rcases List.mem_cons.mp (I.stkSub b hb) with z | z
    · rw [z]; exact I.lt
    · cases Nat.lt_or_ge b s.heap.objs.size with
      | inl q => exact q
      | inr q => exact absurd z (I.nofs q)
  have okB : (Cxg X s H cenv fp B [(a, go)]).Ok := by
    refine ⟨I.ok.mod, by show cenv.scope.kind = _; rw [hsc]; exact ok.kind, by show cenv.globals = _; rw [← hcenv]; exact I.ok.glob, by show cenv.builtins = _; rw [← hcenv]; rfl, by show s.heap.objs.size ≤ cenv.locals; rw [hL]; exact Nat.le_refl _,
      fun y z c e1 e2 => I.ok.inj y z c (mem e1).1 (mem e2).1, fun y hy => ?_, fun y c z e => absurd (show false = true from z) Bool.false_ne_true, fun _ => hB, hF, .inr ⟨rfl, by show cenv.frame = some cenv.locals; rw [← hcenv]; rfl⟩, fun b hb => ⟨?_, fun y c e z => ?_⟩, I.bs, Nat.le_trans I.ok.bsz I.sz, fun b o e hb => ?_, fun b hb z => ?_, I.stack, I.stkFree⟩
    · rcases hy with hy | hy
      · have hy : cenv.kindOf y = some .cell := hy
        unfold Env.kindOf at hy
        rw [hsc] at hy
        exact absurd rfl (nocell (y, .cell) (PySem.mem_of_lookup hy))
      · have hy : cenv.kindOf y = some .free := hy
        unfold Env.kindOf at hy
        rw [hsc] at hy
        obtain ⟨c, h1, _⟩ := look hy
        exact ⟨c, h1⟩
    · show b ≠ cenv.locals
      rw [hL]; exact Nat.ne_of_lt (hfp b hb).2
    · exact (hfp b hb).1.2.2.2.2.1 y c (mem e).1 z
    · rcases (hfp b hb).1.2.2.2.1 with z | z
      · exact I.ok.noex b o e z
      · exact absurd (Nat.lt_of_lt_of_le (Heap.lt_size e) (Nat.le_trans I.ok.bsz z)) (Nat.lt_irrefl _)
    · rcases List.mem_cons.mp (I.stkSub b z) with z | z
      · exact (hfp b hb).1.2.1 z
      · exact (hfp b hb).1.2.2.1 z
  refine ⟨okB, hos, hbare, Un.kept kp, ⟨m, by show Heap.Ns _ cenv.locals _; rw [hL]; exact hns, fun i y av e1 e2 e3 => ?_⟩, fun y c e => ?_, ?_, fun y c e => ?_, fun p hp => ?_, I.hok.kept kp, by rw [wipe_length]; exact I.len⟩
  · obtain ⟨e2, hne⟩ := wipe_some e2
    have hfr : scope.names.lookup y = some .free := by
      have no : ∀ k, scope.names.lookup y = some k → (k = .local ∨ k = .cell) → False := fun k e hh => by
        rcases ok.own _ (PySem.mem_of_lookup e) hh with e' | e'
        · obtain ⟨p, hp, hpy⟩ := List.mem_map.mp e'
          have e3 := ok.ix p hp
          have : p.1 = y := hpy
          rw [this] at e3
          exact hne (List.mem_map.mpr ⟨p, hp, nodup_ix hN e3 e1⟩)
        · exact e' (List.mem_of_getElem? e1)
      have e3 : Vis cenv.scope y := e3
      rw [hsc] at e3
      rcases e3 with e3 | e3 | e3
      · exact (no _ e3 (.inl rfl)).elim
      · exact (no _ e3 (.inr rfl)).elim
      · exact e3
    obtain ⟨m', hn, hl⟩ := I.loc
    have hvis : Vis X.env.scope y := (ok.free _ (PySem.mem_of_lookup hfr) rfl).elim (fun k => .inr (.inl k)) (fun k => .inr (.inr k))
    obtain ⟨w, r, q⟩ := hl i y av e1 e2 hvis
    obtain ⟨c, h1, h2⟩ := look hfr
    refine ⟨w, r, .inr ⟨.inr (by unfold Env.kindOf; show cenv.scope.names.lookup y = _; rw [hsc]; exact hfr), c, h1, ?_⟩⟩
    rcases q with ⟨k, _⟩ | ⟨_, c', e', z⟩
    · have k : X.env.scope.names.lookup y = some .local := k
      rcases ok.free _ (PySem.mem_of_lookup hfr) rfl with k' | k' <;> rw [show X.env.scope.names.lookup y = _ from k'] at k <;> cases k
    · rw [h2] at e'; cases e'
      exact z.keeps kp
  · have e : cenv.cells.lookup y = some c := e
    obtain ⟨w, z⟩ := I.cell y c (mem e).1
    exact ⟨w, z.keeps kp⟩
  · show H cenv.locals = none
    rw [hL]; exact I.hok.fresh (Nat.le_refl _)
  · have e : cenv.cells.lookup y = some c := e
    exact I.freeC y c (mem e).1
  · have hp : p ∈ [(a, go)] := by simpa using hp
    rw [List.mem_singleton.mp hp]
    refine ⟨ha, I.hok.fresh (Nat.le_of_lt haS), ?_, fun z => Nat.lt_irrefl _ (Nat.lt_trans haS (stkLt _ z)), hgo⟩
    show a ≠ cenv.locals
    rw [hL]; exact Nat.ne_of_gt haS
end

theorem over_gen {A : Around} {elt : Expr} {gens : List Comprehension} {scope : Scope} {pos : Pos} {it acc : Value} {env : Env} : A.over (.compLoop (.GeneratorExp elt gens scope pos) 0 it acc env) [] = A.deeper env := rfl
theorem over_genS {A : Around} {elt : Expr} {gens : List Comprehension} {scope : Scope} {pos : Pos} {it acc : Value} {env : Env} : A.over (.compStart (.GeneratorExp elt gens scope pos) 0 it acc env) [] = A.deeper env := rfl

/-- what a consumer leaves between two wakings -/
structure Same0 (s s' : Shared) : Prop where
  os : s'.os = s.os
  heap : s'.heap = s.heap
  bare : AllBare s'.gens
/-- a truth is handed out -/
def GxY (X : Cx) (pins : List (Addr × Obj)) (σ : L2.St) (Q : VK) (z : Bool) (a : Addr) (g : Nat) : Protocol := fun n s₀ v s1 kap =>
  ∃ c H', v = Value.bool c ∧ Inv X pins σ H' s1 ∧ s1.heap.IsGen a g ∧ (if c = z then ∀ s2, Same0 s1 s2 → kap (.send .none) s2 else Q (.bl c) H')
/-- it is through -/
def GxP (X : Cx) (pins : List (Addr × Obj)) (σ : L2.St) (Q : VK) (z : Bool) : Nat → Shared → Shared → Prop := fun n s₀ s1 => ∃ H', Inv X pins σ H' s1 ∧ Q (.bl z) H'

/-- a turn's reading -/
def GxW (J : It) (g : TG) (tt : TT) (te : TE) (σ : L2.St) (vs : List Nat) (z : Bool) (Q : VK) (W : Nat → Nat → Hp → Prop) : Prop := ∀ i m H, W i m H →
  (J.stop i H ∧ Q (.bl z) H) ∨ (J.go i H ∧ ∃ Nx : Hp → Prop, (∀ H', Nx H' → ∃ m', m' < m ∧ W (i + 1) m' H') ∧ ∀ x H', J.yld i H x H' → g x (wipe σ vs) H' fun σ2 H2 => wipe σ2 vs = wipe σ vs ∧ tt σ2 H2 fun b H3 =>
    if b = true then te σ2 H3 fun y H4 => ∃ c, y = .bl c ∧ if c = z then Nx H4 else Q (.bl c) H4 else Nx H3)

section
variable {X : Cx} {pins : List (Addr × Obj)} {σ : L2.St} {Hs : Hp} {ss : Shared}
theorem seg_gx {A : Around} {elt tg iter : Expr} {ifs : List Expr} {scope : Scope} {own : List (Str × Nat)} {pos : Pos} {fp : List Addr} {cenv : Env} {a it : Addr} {g : Nat} {go : Obj} {J : It} {tn : Nat → Heap → Prop} {gt : TG} {tt : TT} {te : TE} {z : Bool} {Q : VK} {W : Nat → Nat → Hp → Prop}
    (I0 : Inv X pins σ Hs ss) (hf0 : ∀ b ∈ fp, FpOk X pins Hs b) (haf : ∀ b ∈ fp, a ≠ b) (hgen : ∀ h : Heap, h.get? a = some go → h.IsGen a g)
    (T : Turn X.prog X.w X.K tg J fp it tn) (hco : cenv.scope.isCoroutine = false)
    (pg : PG (Cxg X ss Hs cenv fp (A.deeper cenv) [(a, go)]) tg gt) (pt : PTs (Cxg X ss Hs cenv fp (A.deeper cenv) [(a, go)]) ifs tt) (pe : PE (Cxg X ss Hs cenv fp (A.deeper cenv) [(a, go)]) elt te)
    (turn : GxW J gt tt te σ (own.map (·.2)) z Q W) :
    ∀ (m n : Nat), m < n → ∀ (i : Nat) (s₀ s : Shared) (H' : Hp), Inv (Cxg X ss Hs cenv fp (A.deeper cenv) [(a, go)]) [] (wipe σ (own.map (·.2))) H' s → tn i s.heap → (∀ b ∈ fp, H' b = none) → W i m H' →
      Seg (model X.prog X.w) A (fun n s₀ r s₁ => r = .ok .next ∧ GxP X pins σ Q z n s₀ s₁) (GxY X pins σ Q z a g) n s₀
        (.compLoop (.GeneratorExp elt [⟨tg, iter, ifs, 0⟩] scope pos) 0 (.ref it) .none cenv)
        ((model X.prog X.w).den (.compLoop (.GeneratorExp elt [⟨tg, iter, ifs, 0⟩] scope pos) 0 (.ref it) .none cenv)) [] s := by
  have stat : ∀ {σ' : L2.St} {H' : Hp} {s' : Shared}, Inv (Cxg X ss Hs cenv fp (A.deeper cenv) [(a, go)]) [] σ' H' s' → (∀ b ∈ fp, H' b = none) → ∀ b ∈ fp, FpOk (Cxg X ss Hs cenv fp (A.deeper cenv) [(a, go)]) [] H' b := fun {σ' H' s'} I' hn b hb =>
    ⟨hn b hb, (I'.ok.exf b hb).1, I'.ok.exfs b hb, .inl hb, fun x c e => (I'.ok.exf b hb).2 x c e, fun p hp => by
      have hp : p ∈ [(a, go)] := by simpa using hp
      rw [List.mem_singleton.mp hp]
      exact haf b hb⟩
  -- back in the def's context
  have back : ∀ {pins' : List (Addr × Obj)} {σ' : L2.St} {H' : Hp} {s' : Shared}, Inv (Cxg X ss Hs cenv fp (A.deeper cenv) [(a, go)]) pins' σ' H' s' → Inv X pins σ H' s' := fun {pins' σ' H' s'} I' =>
    I0.call' (ch := fp) I'.os I'.base I'.hok I'.bare fun b hb => ⟨(hf0 b hb).2.2.2.1, (hf0 b hb).2.1, (hf0 b hb).2.2.2.2.1, (hf0 b hb).2.2.2.2.2⟩
  have gat : ∀ {pins' : List (Addr × Obj)} {σ' : L2.St} {H' : Hp} {s' : Shared}, Inv (Cxg X ss Hs cenv fp (A.deeper cenv) [(a, go)]) pins' σ' H' s' → s'.heap.IsGen a g := fun {pins' σ' H' s'} I' =>
    hgen _ (I'.pin (a, go) (List.mem_append_left _ (List.mem_singleton.mpr rfl))).1
  intro m
  induction m using Nat.strongRecOn with
  | ind m ih =>
    intro n hm i s₀ s H' I1 st1 n1 w1
    obtain ⟨n, rfl⟩ : ∃ k, n = k + 1 := ⟨n - 1, by omega⟩
    show Seg _ A _ _ _ s₀ _ ((compTurn (.GeneratorExp elt [⟨tg, iter, ifs, 0⟩] scope pos) 0 (.ref it) .none cenv).onRaise (leaving cenv)) [] s
    rw [compTurn_gen, Sem.onRaise_eq_wrap]
    refine seg_bind_wrap (wpAny_standAt ?_)
    rcases turn i m H' w1 with ⟨stop, qq⟩ | ⟨go1, Nx, hNx, step⟩
    · have td := T.done (Cxg X ss Hs cenv fp (A.deeper cenv) [(a, go)]) rfl rfl rfl rfl i [] s _ H' (fun _ _ => False) I1 (stat I1 n1) st1 stop
      refine seg_bind_wrap (thnF td fun r s6 ⟨hr, I6⟩ => ?_)
      subst hr
      exact seg_end (.ok .next) ⟨rfl, H', back I6, qq⟩
    · have ti := T.item (Cxg X ss Hs cenv fp (A.deeper cenv) [(a, go)]) rfl rfl rfl rfl i [] s _ H' (fun _ _ => False) I1 (stat I1 n1) st1 go1
      refine seg_bind_wrap (thnF ti fun r s6 ⟨u, hr, h6⟩ => ?_)
      subst hr
      refine seg_bind_wrap (thnF h6 fun _ s7 ⟨x, H7, I7, r7, y7, st7, n7⟩ => ?_)
      have I7' := I7.pinned (stat I7 n7) (T.obj _ _ st7)
      refine seg_bind_wrap (thnF (pg.run _ s7 _ H7 x u _ I7' r7 (step x H7 y7)) fun _ s8 ⟨σ8, H8, I8, hw8, q8⟩ => ?_)
      refine seg_bind_wrap (thnF (pt.run _ s8 σ8 H8 _ I8 q8) fun b s9 ⟨H9, I9, q9⟩ => ?_)
      -- the turn's end
      have fin : ∀ {s' : Shared} {H' : Hp}, Inv (Cxg X ss Hs cenv fp (A.deeper cenv) [(a, go)]) ([] ++ pinsAt fp s7.heap) σ8 H' s' → Nx H' → ∃ m', m' < m ∧ Inv (Cxg X ss Hs cenv fp (A.deeper cenv) [(a, go)]) [] (wipe σ (own.map (·.2))) H' s' ∧ tn (i + 1) s'.heap ∧ (∀ b ∈ fp, H' b = none) ∧ W (i + 1) m' H' := fun {s' H'} I' nx => by
        obtain ⟨m', hm, w'⟩ := hNx H' nx
        have pin' : ∀ b ∈ fp, ∀ o, s7.heap.get? b = some o → s'.heap.get? b = some o ∧ H' b = none := fun b hb o e =>
          let z := I'.pin (b, o) (List.mem_append_right _ (List.mem_append_right _ (mem_pinsAt hb e)))
          ⟨z.1, z.2.1⟩
        have hl : (wipe σ (own.map (·.2))).length = σ8.length := by rw [← hw8, wipe_length]
        refine ⟨m', hm, (I'.unpinned (pins := [])).weak hl (fun j v e => ?_), T.keep _ _ _ st7 fun b hb o e => (pin' b hb o e).1, fun b hb => ?_, w'⟩
        · rw [← hw8] at e
          exact (wipe_some e).1
        · obtain ⟨o, e, _⟩ := T.obj _ _ st7 b hb
          exact (pin' b hb o e).2
      cases b with
      | false =>
        simp only [Bool.false_eq_true, if_false] at q9 ⊢
        obtain ⟨m', hm', a1, a2, a3, a4⟩ := fin I9 q9
        exact seg_again rfl (ih m' hm' (n + 1) (by omega) (i + 1) s₀ s9 H9 a1 a2 a3 a4)
      | true =>
        simp only [if_true] at q9 ⊢
        have hy : ∀ v, yieldOut cenv v = yieldValue v := fun v => by simp only [yieldOut, hco, Bool.false_eq_true, if_false]
        simp only [hy]
        rw [Sem.bind_eq_wrap', Sem.bind_eq_wrap', Sem.wrap_wrap, Sem.wrap_wrap]
        refine seg_wrap (thnF (pe.run _ s9 σ8 H9 _ I9 q9) fun v s10 ⟨yv, H10, I10, r10, c, ec, nx⟩ => ?_)
        subst ec
        have r10 : v = Value.bool c := r10
        subst r10
        refine seg_at (seg_yield rfl rfl rfl ⟨c, H10, rfl, back I10, gat I10, ?_⟩)
        by_cases hc : c = z
        · rw [if_pos hc] at nx ⊢
          intro s2 S0
          have I10' := Inv.re I10 S0.os S0.heap S0.bare
          obtain ⟨m', hm', a1, a2, a3, a4⟩ := fin I10' nx
          exact seg_again rfl (ih m' hm' n (by omega) (i + 1) s2 s2 H10 a1 a2 a3 a4)
        · rw [if_neg hc] at nx ⊢
          exact nx

theorem seg_gxS {A : Around} {elt tg iter : Expr} {ifs : List Expr} {scope : Scope} {own : List (Str × Nat)} {pos : Pos} {fp : List Addr} {cenv : Env} {a it : Addr} {g : Nat} {go : Obj} {J : It} {tn : Nat → Heap → Prop} {gt : TG} {tt : TT} {te : TE} {z : Bool} {Q : VK} {W : Nat → Nat → Hp → Prop}
    (I0 : Inv X pins σ Hs ss) (hf0 : ∀ b ∈ fp, FpOk X pins Hs b) (haf : ∀ b ∈ fp, a ≠ b) (hgen : ∀ h : Heap, h.get? a = some go → h.IsGen a g)
    (T : Turn X.prog X.w X.K tg J fp it tn) (hco : cenv.scope.isCoroutine = false)
    (pg : PG (Cxg X ss Hs cenv fp (A.deeper cenv) [(a, go)]) tg gt) (pt : PTs (Cxg X ss Hs cenv fp (A.deeper cenv) [(a, go)]) ifs tt) (pe : PE (Cxg X ss Hs cenv fp (A.deeper cenv) [(a, go)]) elt te)
    (turn : GxW J gt tt te σ (own.map (·.2)) z Q W) {m : Nat} {s₀ s : Shared} {H' : Hp} (I1 : Inv (Cxg X ss Hs cenv fp (A.deeper cenv) [(a, go)]) [] (wipe σ (own.map (·.2))) H' s) (st1 : tn 0 s.heap) (n1 : ∀ b ∈ fp, H' b = none) (w1 : W 0 m H') :
      Seg (model X.prog X.w) A (fun n s₀ r s₁ => r = .ok .next ∧ GxP X pins σ Q z n s₀ s₁) (GxY X pins σ Q z a g) (m + 1) s₀
        (.compStart (.GeneratorExp elt [⟨tg, iter, ifs, 0⟩] scope pos) 0 (.ref it) .none cenv)
        ((model X.prog X.w).den (.compStart (.GeneratorExp elt [⟨tg, iter, ifs, 0⟩] scope pos) 0 (.ref it) .none cenv)) [] s := by
  have loop := seg_gx (iter := iter) (scope := scope) (pos := pos) (it := it) I0 hf0 haf hgen T hco pg pt pe turn m (m + 1) (Nat.lt_succ_self m) 0 s₀ s H' I1 st1 n1 w1
  show Seg _ A _ _ _ s₀ _ ((compStart (.GeneratorExp elt [⟨tg, iter, ifs, 0⟩] scope pos) 0 (.ref it) .none cenv).onRaise (leaving cenv)) [] s
  unfold compStart
  rw [Sem.onRaise_eq_wrap]
  show Seg _ A _ _ _ s₀ _ ((ask >>= _).wrap _ _ _ _) [] s
  refine seg_bind_wrap (wpAny_askSetting ?_)
  split
  · exact seg_again rfl loop
  · first
      | exact seg_bind_wrap (wpAny_rule (seg_bind_wrap (wpAny_standAt (seg_bind_wrap (T.self _ 0 s _ _ st1 (seg_again rfl loop))))))
      | (refine seg_bind_wrap (wpAny_rule ?_); show Seg _ A _ _ _ s₀ _ ((standAt iter.pos >>= _).wrap _ _ _ _) [] s; exact seg_bind_wrap (wpAny_standAt (seg_bind_wrap (T.self _ 0 s _ _ st1 (seg_again rfl loop)))))

/-- the consumer's loop, all | any -/
theorem loop_all {A : Around} {R : Result → Shared → Prop} {a : Addr} {g : Nat} {Q : VK} (hh : A.handled = none) (hd : A.depth < recursionLimit)
    (hR : ∀ c H' s', Inv X pins σ H' s' → Q (.bl c) H' → R (.ok (.ret (.bool c))) s') :
    ∀ (n : Nat) (s : Shared), (∃ H', Inv X pins σ H' s) → s.heap.IsGen a g →
      (∃ gs, s.gens[g]? = some gs ∧ gs.Goes (model X.prog X.w) A.in1.in1 (fun n s₀ r s₁ => r = .ok .next ∧ GxP X pins σ Q true n s₀ s₁) (GxY X pins σ Q true a g) n (.send .none) (s.setGen g .running)) →
      codeAny (model X.prog X.w) A (.builtin "all.loop" ⟨[.ref a], []⟩) R s := by
  intro n
  induction n with
  | zero =>
    rintro s ⟨H0, I0⟩ hg ⟨gs, hgs, hgo⟩
    refine codeAny_builtin F.entry_all_loop ?_
    rw [Around.under_plainId F.plain_all_loop _]
    show wpAny _ A.in1 (pyNext (.ref a) >>= _) _ _ s
    refine wpAny_bind (wpAny_pyNext_genexpQ (A := A.in1) (P := GxP X pins σ Q true) hh I0.nolimit hd hg hgs hgo (fun v s₁ gs' hbare hv => ?_) (fun s₁ hp h' hk => ?_))
    · obtain ⟨c, H', rfl, I1, hg1, hq⟩ := hv
      refine wpAny_bind (wpAny_holding (wpAny_truthy_bool ?_))
      refine wpAny_bind (wpAny_letGo ?_)
      cases c with
      | true =>
        rw [if_pos rfl] at hq
        exact False.elim (hq s₁ ⟨rfl, rfl, I1.bare⟩)
      | false =>
        rw [if_neg (by decide)] at hq
        simp only [Bool.false_eq_true, if_false]
        refine wpAny_bind (wpAny_rule (wpAny_pure ?_))
        exact hR false H' _ (Inv.re I1 rfl rfl (allBare_setGen I1.bare hbare)) hq
    · obtain ⟨H', I1, hq⟩ := hp
      refine wpAny_bind (wpAny_rule (wpAny_pure ?_))
      exact hR true H' _ (Inv.re (I1.kept (t' := s₁.toks) hk) rfl rfl (allBare_setGen I1.bare rfl)) hq
  | succ n ih =>
    rintro s ⟨H0, I0⟩ hg ⟨gs, hgs, hgo⟩
    have hgl : g < s.gens.size := (Array.getElem?_eq_some_iff.mp hgs).1
    refine codeAny_builtin F.entry_all_loop ?_
    rw [Around.under_plainId F.plain_all_loop _]
    show wpAny _ A.in1 (pyNext (.ref a) >>= _) _ _ s
    refine wpAny_bind (wpAny_gsz (n := g + 1) hgl (wpAny_pyNext_genexpQ (A := A.in1) (P := GxP X pins σ Q true) hh I0.nolimit hd hg hgs hgo (fun v s₁ gs' hbare hv => ?_) (fun s₁ hp h' hk => ?_)))
    · intro hsz
      obtain ⟨c, H', rfl, I1, hg1, hq⟩ := hv
      refine wpAny_bind (wpAny_holding (wpAny_truthy_bool ?_))
      refine wpAny_bind (wpAny_letGo ?_)
      cases c with
      | true =>
        rw [if_pos rfl] at hq
        simp only [if_true]
        have hsz1 : g < s₁.gens.size := by
          have q : (s₁.setGen g gs').gens.size = s₁.gens.size := setGen_size _ _ _
          have hsz' : g + 1 ≤ (s₁.setGen g gs').gens.size := hsz
          omega
        refine wpAny_pure ⟨plainId_quiet F.plain_all_loop _, ?_⟩
        refine ih (s₁.setGen g gs') ⟨H', Inv.re I1 rfl rfl (allBare_setGen I1.bare hbare)⟩ hg1 ⟨gs', setGen_at hsz1, ?_⟩
        exact hq _ ⟨rfl, rfl, allBare_setGen (s := s₁.setGen g gs') (allBare_setGen I1.bare hbare) rfl⟩
      | false =>
        rw [if_neg (by decide)] at hq
        simp only [Bool.false_eq_true, if_false]
        refine wpAny_bind (wpAny_rule (wpAny_pure ?_))
        exact hR false H' _ (Inv.re I1 rfl rfl (allBare_setGen I1.bare hbare)) hq
    · intro hsz
      obtain ⟨H', I1, hq⟩ := hp
      refine wpAny_bind (wpAny_rule (wpAny_pure ?_))
      exact hR true H' _ (Inv.re (I1.kept (t' := s₁.toks) hk) rfl rfl (allBare_setGen I1.bare rfl)) hq
theorem loop_any {A : Around} {R : Result → Shared → Prop} {a : Addr} {g : Nat} {Q : VK} (hh : A.handled = none) (hd : A.depth < recursionLimit)
    (hR : ∀ c H' s', Inv X pins σ H' s' → Q (.bl c) H' → R (.ok (.ret (.bool c))) s') :
    ∀ (n : Nat) (s : Shared), (∃ H', Inv X pins σ H' s) → s.heap.IsGen a g →
      (∃ gs, s.gens[g]? = some gs ∧ gs.Goes (model X.prog X.w) A.in1.in1 (fun n s₀ r s₁ => r = .ok .next ∧ GxP X pins σ Q false n s₀ s₁) (GxY X pins σ Q false a g) n (.send .none) (s.setGen g .running)) →
      codeAny (model X.prog X.w) A (.builtin "any.loop" ⟨[.ref a], []⟩) R s := by
  intro n
  induction n with
  | zero =>
    rintro s ⟨H0, I0⟩ hg ⟨gs, hgs, hgo⟩
    refine codeAny_builtin F.entry_any_loop ?_
    rw [Around.under_plainId F.plain_any_loop _]
    show wpAny _ A.in1 (pyNext (.ref a) >>= _) _ _ s
    refine wpAny_bind (wpAny_pyNext_genexpQ (A := A.in1) (P := GxP X pins σ Q false) hh I0.nolimit hd hg hgs hgo (fun v s₁ gs' hbare hv => ?_) (fun s₁ hp h' hk => ?_))
    · obtain ⟨c, H', rfl, I1, hg1, hq⟩ := hv
      refine wpAny_bind (wpAny_holding (wpAny_truthy_bool ?_))
      refine wpAny_bind (wpAny_letGo ?_)
      cases c with
      | false =>
        rw [if_pos rfl] at hq
        exact False.elim (hq s₁ ⟨rfl, rfl, I1.bare⟩)
      | true =>
        rw [if_neg (by decide)] at hq
        simp only [if_true]
        refine wpAny_bind (wpAny_rule (wpAny_pure ?_))
        exact hR true H' _ (Inv.re I1 rfl rfl (allBare_setGen I1.bare hbare)) hq
    · obtain ⟨H', I1, hq⟩ := hp
      refine wpAny_bind (wpAny_rule (wpAny_pure ?_))
      exact hR false H' _ (Inv.re (I1.kept (t' := s₁.toks) hk) rfl rfl (allBare_setGen I1.bare rfl)) hq
  | succ n ih =>
    rintro s ⟨H0, I0⟩ hg ⟨gs, hgs, hgo⟩
    have hgl : g < s.gens.size := (Array.getElem?_eq_some_iff.mp hgs).1
    refine codeAny_builtin F.entry_any_loop ?_
    rw [Around.under_plainId F.plain_any_loop _]
    show wpAny _ A.in1 (pyNext (.ref a) >>= _) _ _ s
    refine wpAny_bind (wpAny_gsz (n := g + 1) hgl (wpAny_pyNext_genexpQ (A := A.in1) (P := GxP X pins σ Q false) hh I0.nolimit hd hg hgs hgo (fun v s₁ gs' hbare hv => ?_) (fun s₁ hp h' hk => ?_)))
    · intro hsz
      obtain ⟨c, H', rfl, I1, hg1, hq⟩ := hv
      refine wpAny_bind (wpAny_holding (wpAny_truthy_bool ?_))
      refine wpAny_bind (wpAny_letGo ?_)
      cases c with
      | false =>
        rw [if_pos rfl] at hq
        simp only [Bool.false_eq_true, if_false]
        have hsz1 : g < s₁.gens.size := by
          have q : (s₁.setGen g gs').gens.size = s₁.gens.size := setGen_size _ _ _
          have hsz' : g + 1 ≤ (s₁.setGen g gs').gens.size := hsz
          omega
        refine wpAny_pure ⟨plainId_quiet F.plain_any_loop _, ?_⟩
        refine ih (s₁.setGen g gs') ⟨H', Inv.re I1 rfl rfl (allBare_setGen I1.bare hbare)⟩ hg1 ⟨gs', setGen_at hsz1, ?_⟩
        exact hq _ ⟨rfl, rfl, allBare_setGen (s := s₁.setGen g gs') (allBare_setGen I1.bare hbare) rfl⟩
      | true =>
        rw [if_neg (by decide)] at hq
        simp only [if_true]
        refine wpAny_bind (wpAny_rule (wpAny_pure ?_))
        exact hR true H' _ (Inv.re I1 rfl rfl (allBare_setGen I1.bare hbare)) hq
    · intro hsz
      obtain ⟨H', I1, hq⟩ := hp
      refine wpAny_bind (wpAny_rule (wpAny_pure ?_))
      exact hR false H' _ (Inv.re (I1.kept (t' := s₁.toks) hk) rfl rfl (allBare_setGen I1.bare rfl)) hq
end
section
variable {X : Cx}
/-- all | any (z: true, false) of a generator expression; P: the def's table -/
def tGx (P : Addr) (z : Bool) (wi : TI) (g : TG) (tt : TT) (te : TE) (vs : List Nat) : TE := fun σ H Q => wi σ H fun J H1 => TabG H1 P ∧ ∀ H2, Tabbed P H1 H2 → ∃ W : Nat → Nat → Hp → Prop, (∃ m, W 0 m H2) ∧ GxW J g tt te σ vs z Q W
/-- the generator, not begun, as its consumer wants it -/
def GxReady (X : Cx) (pins : List (Addr × Obj)) (σ : L2.St) (Q : VK) (z : Bool) (B : Around) (v : Value) (s5 : Shared) : Prop :=
  ∃ a g n, v = .ref a ∧ (∃ H', Inv X pins σ H' s5) ∧ s5.heap.IsGen a g ∧ ∃ gs, s5.gens[g]? = some gs ∧ gs.Goes (model X.prog X.w) B (fun n s₀ r s₁ => r = .ok .next ∧ GxP X pins σ Q z n s₀ s₁) (GxY X pins σ Q z a g) n (.send .none) (s5.setGen g .running)
theorem gx_make {c P : Addr} {elt tg iter : Expr} {ifs : List Expr} {gpos : Pos} {scope : Scope} {own : List (Str × Nat)} {wi : TI} {gt : TG} {tt : TT} {te : TE} {z : Bool} {B : Around} {Q : VK} {Q' : Value → Shared → Prop} {pins : List (Addr × Obj)} {σ : L2.St} {H : Hp} {s : Shared}
    (hB : B.handled = none) (hF : B.frames = X.A.frames) (hd : X.A.depth < recursionLimit) (TB : TabB X.base X.mg c P) (hcode : X.env.code = .ref c) (hN : X.N.Nodup) (ok : BlkOk X.N X.env.scope scope own) (hco : scope.isCoroutine = false) (nocell : ∀ y ∈ scope.names, y.2 ≠ .cell) (dot : scope.names.lookup (".0" : Str) = some NameKind.local)
    (hi : PI X tg iter wi)
    (hpg : ∀ (s : Shared) (H : Hp) (C : Addr) (cl : List (Str × Addr)) (code : Value) (fp : List Addr) (pn : List (Addr × Obj)), PG (Cxg X s H (genEnv scope cl C code builtinsNs X.env) fp (B.deeper (genEnv scope cl C code builtinsNs X.env)) pn) tg gt)
    (hpt : ∀ (s : Shared) (H : Hp) (C : Addr) (cl : List (Str × Addr)) (code : Value) (fp : List Addr) (pn : List (Addr × Obj)), PTs (Cxg X s H (genEnv scope cl C code builtinsNs X.env) fp (B.deeper (genEnv scope cl C code builtinsNs X.env)) pn) ifs tt)
    (hpe : ∀ (s : Shared) (H : Hp) (C : Addr) (cl : List (Str × Addr)) (code : Value) (fp : List Addr) (pn : List (Addr × Obj)), PE (Cxg X s H (genEnv scope cl C code builtinsNs X.env) fp (B.deeper (genEnv scope cl C code builtinsNs X.env)) pn) elt te)
    (hs : ∀ v, genFold iter X.env v = pure v) (I : Inv X pins σ H s) (h : tGx P z wi gt tt te (own.map (·.2)) σ H Q)
    (hQ : ∀ v s5, GxReady X pins σ Q z B v s5 → Q' v s5) :
    wpAny (model X.prog X.w) X.A (eval (.GeneratorExp elt [⟨tg, iter, ifs, 0⟩] scope gpos) X.env) Q' X.xe s := by
  have hfree : ∀ y ∈ scope.names, y.2 = .free → ∃ c, X.env.cells.lookup y.1 = some c := fun y hy e => by
    rcases ok.free y hy e with k | k
    · exact I.ok.has _ (.inl k)
    · exact I.ok.has _ (.inr k)
  refine wpAny_GeneratorExp_make hco (closure_ok hfree) nocell dot ok.kind hd ?_ hs
  refine thn (hi.run pins s σ H _ I h) fun xv s1 hx => thn hx fun itv s2 h2 => ?_
  obtain ⟨it, fp, tn, J, H1, e, I1, T, st1, f1, ⟨ps, hP, ht⟩, q1⟩ := h2
  subst e
  have hPs : s2.heap.get? P = some { cls := .none, data := .fields ps } := I1.hok P _ hP
  have cd : PySem.W.CodeHd s2.heap c P := TB.code.keeps fun b u e => I1.bk b u e
  have cont : ∀ (code : Value) (h3 : Heap) (tk : Nat) (ps' : Array Value), Heap.ExtBut P s2.heap h3 → s2.heap.objs.size ≤ h3.objs.size → h3.get? P = some { cls := .none, data := .fields ps' } → (∃ more, ps' = ps ++ more) → TriplesOk ps'.toList →
      wpAny (model X.prog X.w) X.A (builtinsFor X.env.globals X.env.builtins) (fun bi s₄ =>
        ∀ h', h'.Ns s₄.heap.objs.size (fun y => if y = ".0" then some (.ref it) else none) → Heap.SameBut s₄.heap.objs.size (s₄.heap.push { cls := .type "frame", data := .dict #[] }) h' →
          Q' (.ref h'.objs.size) { s₄ with
            gens := s₄.gens.push (.fresh (.compStart (.GeneratorExp elt [⟨tg, iter, ifs, 0⟩] scope gpos) 0 (.ref it) .none (genEnv scope (cloFrom X.env.cells scope.names []) s₄.heap.objs.size code bi X.env))),
            toks := s₄.toks + 1 + 1 + 1,
            heap := h'.push { cls := .type "generator", data := .fields #[.int s₄.gens.size 0, .str "<genexpr>" (s₄.toks + 1), .str (X.env.qual ++ "<genexpr>") (s₄.toks + 1 + 1)] } }) X.xe { s2 with heap := h3, toks := tk } := by
    intro code h3 tk ps' hx hsz hP3 hmore ht3
    obtain ⟨bm, ob, e1, e2, e3, e4, e5, e6, e7, e8⟩ := TB.bm
    have keep3 : ∀ b u, b ≠ P → s2.heap.get? b = some u → h3.get? b = some u := fun b u hb e => hx b u hb e
    refine wpAny_builtinsFor (m := X.mg) (by rw [I1.ok.glob]; exact (I1.mod.glob.keeps I1.bk).extBut hx TB.gP) e1 e2 (keep3 _ _ e4 (I1.bk _ _ e5)) e6 e7 e8 ?_
    intro h' hns hsb
    obtain ⟨more, em⟩ := hmore
    -- the def's context behind the table's growth
    have I4 : Inv X pins σ (upd H1 P (.tbl (ps ++ more))) { s2 with heap := h3, toks := tk } := by
      have J := inv_tab (more := more) (h' := h3) (g' := s2.gens) (d' := s2.drawn) (t' := tk) I1 hP keep3 (by rw [← em]; exact hP3) I1.bare
      exact J
    obtain ⟨W, ⟨m0, w0⟩, turn⟩ := q1 (upd H1 P (.tbl (ps ++ more))) ⟨⟨ps ++ more, upd_same, by rw [← em]; exact ht3⟩, fun b hb => upd_ne hb⟩
    have nfP : ∀ b ∈ fp, b ≠ P := fun b hb z => by
      have z1 := (f1 b hb).1
      rw [z, hP] at z1
      cases z1
    have f4 : ∀ b ∈ fp, FpOk X pins (upd H1 P (.tbl (ps ++ more))) b := fun b hb => ⟨by rw [upd_ne (nfP b hb)]; exact (f1 b hb).1, (f1 b hb).2⟩
    have sz4 : ∀ b ∈ fp, b < h3.objs.size := fun b hb => by
      obtain ⟨o, e, _⟩ := T.obj _ _ st1 b hb
      exact Heap.lt_size (keep3 b o (nfP b hb) e)
    have st4 : tn 0 h3 := T.keep _ _ _ st1 fun b hb o e => keep3 b o (nfP b hb) e
    have kp' : ∀ b o, h3.get? b = some o → h'.get? b = some o := fun b o e => hsb.extBut b o (Nat.ne_of_lt (Heap.lt_size e)) (Heap.get?_push_of_some _ e)
    have hsz' : h'.objs.size = h3.objs.size + 1 := by rw [hsb.1, Heap.size_push]
    generalize hgo : ({ cls := .type "generator", data := .fields #[.int s2.gens.size 0, .str "<genexpr>" (tk + 1), .str (X.env.qual ++ "<genexpr>") (tk + 1 + 1)] } : Obj) = go
    have hgen : ∀ h : Heap, h.get? h'.objs.size = some go → h.IsGen h'.objs.size s2.gens.size := fun h e => ⟨go, _, _, e, by rw [← hgo], by rw [← hgo], by rw [← hgo]⟩
    have kp5 : ∀ b o, h3.get? b = some o → (h'.push go).get? b = some o := fun b o e => Heap.get?_push_of_some _ (kp' b o e)
    have ha5 : (h'.push go).get? h'.objs.size = some go := by rw [← hgo]; exact Heap.get?_push_size _ rfl
    have hcv : ∀ v, go.data ≠ .cell v := fun v q => by rw [← hgo] at q; cases q
    show Q' (.ref h'.objs.size) { s2 with heap := h'.push go, gens := s2.gens.push _, toks := tk + 1 + 1 + 1 }
    generalize hcenv : genEnv scope (cloFrom X.env.cells scope.names []) h3.objs.size code builtinsNs X.env = cenv
    have bare5 : AllBare (s2.gens.push (.fresh (.compStart (.GeneratorExp elt [⟨tg, iter, ifs, 0⟩] scope gpos) 0 (.ref it) .none cenv))) := AllBare.push I1.bare rfl
    have I5 : Inv X pins σ (upd H1 P (.tbl (ps ++ more))) { s2 with heap := h'.push go, gens := s2.gens.push (.fresh (.compStart (.GeneratorExp elt [⟨tg, iter, ifs, 0⟩] scope gpos) 0 (.ref it) .none cenv)), toks := tk + 1 + 1 + 1 } :=
      Inv.re (I4.kept (t' := tk + 1 + 1 + 1) kp5) rfl rfl bare5
    refine hQ _ _ ⟨h'.objs.size, s2.gens.size, m0 + 1, rfl, ⟨_, I5⟩, hgen _ ha5, _, Array.getElem?_push_size .., rfl, ?_⟩
    have bare6 : AllBare (({ s2 with heap := h'.push go, gens := s2.gens.push (.fresh (.compStart (.GeneratorExp elt [⟨tg, iter, ifs, 0⟩] scope gpos) 0 (.ref it) .none cenv)), toks := tk + 1 + 1 + 1 } : Shared).setGen s2.gens.size .running).gens := allBare_setGen bare5 rfl
    have I6 := gen_start (code := code) (B := B.deeper cenv) (a := h'.objs.size) (go := go) (s' := ({ s2 with heap := h'.push go, gens := s2.gens.push (.fresh (.compStart (.GeneratorExp elt [⟨tg, iter, ifs, 0⟩] scope gpos) 0 (.ref it) .none cenv)), toks := tk + 1 + 1 + 1 } : Shared).setGen s2.gens.size .running)
      I4 ok hN nocell (fun b hb => ⟨f4 b hb, sz4 b hb⟩) hB (by
        rw [show genEnv scope (cloFrom X.env.cells scope.names []) ({ s2 with heap := h3, toks := tk } : Shared).heap.objs.size code builtinsNs X.env = cenv from hcenv]
        show (B.frames).map (cenv :: ·) = _
        rw [hF, I4.ok.frames]
        rfl) kp5 (hns.push _) ha5 (by show h3.objs.size < h'.objs.size; omega) hcv rfl bare6
    rw [show genEnv scope (cloFrom X.env.cells scope.names []) ({ s2 with heap := h3, toks := tk } : Shared).heap.objs.size code builtinsNs X.env = cenv from hcenv] at I6
    have hpg' := hpg { s2 with heap := h3, toks := tk } (upd H1 P (.tbl (ps ++ more))) h3.objs.size (cloFrom X.env.cells scope.names []) code fp [(h'.objs.size, go)]
    have hpt' := hpt { s2 with heap := h3, toks := tk } (upd H1 P (.tbl (ps ++ more))) h3.objs.size (cloFrom X.env.cells scope.names []) code fp [(h'.objs.size, go)]
    have hpe' := hpe { s2 with heap := h3, toks := tk } (upd H1 P (.tbl (ps ++ more))) h3.objs.size (cloFrom X.env.cells scope.names []) code fp [(h'.objs.size, go)]
    rw [hcenv] at hpg' hpt' hpe'
    exact seg_gxS (A := B) I4 f4 (fun b hb z => Nat.lt_irrefl b (Nat.lt_of_lt_of_le (sz4 b hb) (by rw [← z, hsz']; exact Nat.le_succ _))) hgen T (by rw [← hcenv]; exact hco) hpg' hpt' hpe' turn I6 (T.keep _ _ _ st4 fun b hb o e => kp5 b o e) (fun b hb => (f4 b hb).1) w0
  refine ⟨I1.nolimit, ?_⟩
  cases hf : codeAmong gpos ps.toList with
  | none =>
    refine wpAny_genexprCodeX hcode (cd.code hPs ht) (cd.tab hPs) hf fun c' h' tk hx hge hlt hco' _ htab' _ => ?_
    obtain ⟨o1, vs, f1, tf, fl, tg, inF, tx, tt, op, _, _, _, _, _, _, _, _, _, htr, _⟩ := hco'
    exact cont _ h' tk _ hx (Nat.le_trans hge (Nat.le_of_lt hlt)) htab'.2 ⟨_, rfl⟩ htr
  | some cv =>
    refine wpAny_genexprCode_hit hcode (cd.code hPs ht) hf ?_
    exact cont cv s2.heap s2.toks ps (Heap.ExtBut.refl _ _) (Nat.le_refl _) hPs ⟨#[], by simp⟩ ht
/-- the contexts of a generator expression's frame, for its parts' rules -/
abbrev GxCx (X : Cx) (scope : Scope) (s : Shared) (H : Hp) (C : Addr) (cl : List (Str × Addr)) (code : Value) (fp : List Addr) (pn : List (Addr × Obj)) : Cx :=
  Cxg X s H (genEnv scope cl C code builtinsNs X.env) fp (X.A.in1.in1.deeper (genEnv scope cl C code builtinsNs X.env)) pn
theorem room_gx {k : Nat} {A : Around} (r : Room (k + 4) A) (env : Env) : Room k (A.in1.in1.deeper env) :=
  ⟨r.hd, by have := r.dp; show A.depth + 1 + 3 * k + 5 < _; omega, by have := r.un; show A.units + 1 + 1 + 3 + 16 * k + 200 < _; omega⟩
theorem pe_allG {c P : Addr} {elt tg iter : Expr} {ifs : List Expr} {gpos p pos : Pos} {scope : Scope} {own : List (Str × Nat)} {wi : TI} {gt : TG} {tt : TT} {te : TE}
    (hg : Gl X "all") (hm : X.mg "all" = none) (hh : X.A.handled = none) (hd : X.A.depth < recursionLimit) (TB : TabB X.base X.mg c P) (hcode : X.env.code = .ref c) (hN : X.N.Nodup) (ok : BlkOk X.N X.env.scope scope own)
    (hi : PI X tg iter wi) (hpg : ∀ s H C cl code fp pn, PG (GxCx X scope s H C cl code fp pn) tg gt) (hpt : ∀ s H C cl code fp pn, PTs (GxCx X scope s H C cl code fp pn) ifs tt) (hpe : ∀ s H C cl code fp pn, PE (GxCx X scope s H C cl code fp pn) elt te)
    (hco : scope.isCoroutine = false := by rfl) (nocell : ∀ y ∈ scope.names, y.2 ≠ .cell := by decide +kernel) (dot : scope.names.lookup (".0" : Str) = some NameKind.local := by decide +kernel) (hs : ∀ v, genFold iter X.env v = pure v := by intro _; rfl)
    (hb : bootBuiltins "all" = some (.builtin "all") := by decide +kernel)
    (he : starEach [.GeneratorExp elt [⟨tg, iter, ifs, 0⟩] scope gpos] X.env = (false, eval (.GeneratorExp elt [⟨tg, iter, ifs, 0⟩] scope gpos) X.env) :: starEach [] X.env := by rfl) :
    PE X (.Call (.Name "all" p) [.GeneratorExp elt [⟨tg, iter, ifs, 0⟩] scope gpos] [] pos) (tGx P true wi gt tt te (own.map (·.2))) := by
  refine ⟨fun pins s σ H Q I h => ?_⟩
  refine wpAny_Call_Name_kw (ld_blt I hg hm hb ?_)
  refine PyProof.Rows.callWith_builtin1 ?_ he (by rfl)
  rw [he]
  show wpAny _ _ (spliced ((false, eval (.GeneratorExp elt [⟨tg, iter, ifs, 0⟩] scope gpos) X.env) :: backTo pos (starEach [] X.env))) _ _ s
  refine Calls.spliced_cons (gx_make (B := X.A.in1.in1) (z := true) hh rfl hd TB hcode hN ok hco nocell dot hi hpg hpt hpe hs I h fun v s5 hG => ?_)
  obtain ⟨a, g, n, rfl, ⟨H5, I5⟩, hgen, gs, hgs, hgo⟩ := hG
  refine Calls.spliced_nil ?_
  refine call_function_tree F.kind_all F.plain_all F.entry_all (F.args_all1 _) ?_
  unfold Builtin.«all»
  refine wpAny_bind (m := oneArg "all" _) (wpAny_pure ?_)
  refine wpAny_bind (wpAny_pyIter_gen hgen ?_)
  refine wpAny_pure ⟨plainId_quiet F.plain_all_loop _, ?_⟩
  exact loop_all hh hd (fun c H' s' I' q => ⟨.bl c, H', I', rfl, q⟩) n s5 ⟨H5, I5⟩ hgen ⟨gs, hgs, hgo⟩
theorem pe_anyG {c P : Addr} {elt tg iter : Expr} {ifs : List Expr} {gpos p pos : Pos} {scope : Scope} {own : List (Str × Nat)} {wi : TI} {gt : TG} {tt : TT} {te : TE}
    (hg : Gl X "any") (hm : X.mg "any" = none) (hh : X.A.handled = none) (hd : X.A.depth < recursionLimit) (TB : TabB X.base X.mg c P) (hcode : X.env.code = .ref c) (hN : X.N.Nodup) (ok : BlkOk X.N X.env.scope scope own)
    (hi : PI X tg iter wi) (hpg : ∀ s H C cl code fp pn, PG (GxCx X scope s H C cl code fp pn) tg gt) (hpt : ∀ s H C cl code fp pn, PTs (GxCx X scope s H C cl code fp pn) ifs tt) (hpe : ∀ s H C cl code fp pn, PE (GxCx X scope s H C cl code fp pn) elt te)
    (hco : scope.isCoroutine = false := by rfl) (nocell : ∀ y ∈ scope.names, y.2 ≠ .cell := by decide +kernel) (dot : scope.names.lookup (".0" : Str) = some NameKind.local := by decide +kernel) (hs : ∀ v, genFold iter X.env v = pure v := by intro _; rfl)
    (he : starEach [.GeneratorExp elt [⟨tg, iter, ifs, 0⟩] scope gpos] X.env = (false, eval (.GeneratorExp elt [⟨tg, iter, ifs, 0⟩] scope gpos) X.env) :: starEach [] X.env := by rfl) :
    PE X (.Call (.Name "any" p) [.GeneratorExp elt [⟨tg, iter, ifs, 0⟩] scope gpos] [] pos) (tGx P false wi gt tt te (own.map (·.2))) := by
  refine ⟨fun pins s σ H Q I h => ?_⟩
  refine wpAny_Call_Name_kw (ld_blt I hg hm boot_any ?_)
  refine PyProof.Rows.callWith_builtin1 ?_ he (by rfl)
  rw [he]
  show wpAny _ _ (spliced ((false, eval (.GeneratorExp elt [⟨tg, iter, ifs, 0⟩] scope gpos) X.env) :: backTo pos (starEach [] X.env))) _ _ s
  refine Calls.spliced_cons (gx_make (B := X.A.in1.in1) (z := false) hh rfl hd TB hcode hN ok hco nocell dot hi hpg hpt hpe hs I h fun v s5 hG => ?_)
  obtain ⟨a, g, n, rfl, ⟨H5, I5⟩, hgen, gs, hgs, hgo⟩ := hG
  refine Calls.spliced_nil ?_
  refine call_function_tree F.kind_any F.plain_any F.entry_any (F.args_any1 _) ?_
  unfold Builtin.«any»
  refine wpAny_bind (m := oneArg "any" _) (wpAny_pure ?_)
  refine wpAny_bind (wpAny_pyIter_gen hgen ?_)
  refine wpAny_pure ⟨plainId_quiet F.plain_any_loop _, ?_⟩
  exact loop_any hh hd (fun c H' s' I' q => ⟨.bl c, H', I', rfl, q⟩) n s5 ⟨H5, I5⟩ hgen ⟨gs, hgs, hgo⟩
end
end Gx
/-! ## Kx -/
set_option Elab.async false
set_option linter.all false
set_option maxRecDepth 100000
set_option maxHeartbeats 4000000
/-! data, heaps whose tables of code may grow, all and any over tuples, ranges, texts -/
namespace Kx
open PySem PySem.Spec PyProof.Rows L2 GxR Gx

/-! ### heaps that grow -/
/-- all that was tracked is as it was, but tables of code, which may grow -/
structure Gr (H H' : Hp) : Prop where
  same : ∀ a o, H a = some o → (∀ ps, o ≠ .tbl ps) → H' a = some o
  tab : ∀ P, TabG H P → TabG H' P
theorem Gr.refl (H : Hp) : Gr H H := ⟨fun _ _ h _ => h, fun _ h => h⟩
theorem Gr.trans {H H1 H2 : Hp} (a : Gr H H1) (b : Gr H1 H2) : Gr H H2 := ⟨fun x o h n => b.same x o (a.same x o h n) n, fun P h => b.tab P (a.tab P h)⟩
theorem Gr.of_same {H H' : Hp} (h : Same H H') : Gr H H' := ⟨fun a o e _ => h a o e, fun P ⟨ps, e, t⟩ => ⟨ps, h P _ e, t⟩⟩
theorem Gr.tabbed {P : Addr} {H H' : Hp} (h0 : TabG H P) (h : Tabbed P H H') : Gr H H' := by
  obtain ⟨ps, e, _⟩ := h0
  obtain ⟨h1, h2⟩ := h
  refine ⟨fun a o ea n => ?_, fun Q hq => ?_⟩
  · have ne : a ≠ P := fun z => by
      rw [z, e] at ea
      exact n ps (Option.some.inj ea).symm
    rw [h2 a ne]; exact ea
  · by_cases hQ : Q = P
    · rw [hQ]; exact h1
    · obtain ⟨qs, eq, tq⟩ := hq
      exact ⟨qs, by rw [h2 Q hQ]; exact eq, tq⟩
theorem Gr.new {H : Hp} {p : Addr} {o : HO} (h : H p = none) : Gr H (upd H p o) := .of_same fun a u e => by rw [upd_ne (ne_of_none e h)]; exact e
theorem Gr.lst {H H' : Hp} (g : Gr H H') {a : Addr} {xs : List V} (h : H a = some (.lst xs)) : H' a = some (.lst xs) := g.same a _ h (fun ps q => by cases q)
theorem Gr.tup {H H' : Hp} (g : Gr H H') {a : Addr} {xs : List V} (h : H a = some (.tup xs)) : H' a = some (.tup xs) := g.same a _ h (fun ps q => by cases q)
theorem Gr.dK {H H' : Hp} (g : Gr H H') {a : Addr} {xs : List (Key × V)} (h : H a = some (.dK xs)) : H' a = some (.dK xs) := g.same a _ h (fun ps q => by cases q)
theorem Gr.ins {H H' : Hp} (g : Gr H H') {a C dx : Addr} {fs : List (Str × V)} (h : H a = some (.ins C dx fs)) : H' a = some (.ins C dx fs) := g.same a _ h (fun ps q => by cases q)
theorem Gr.rd {H H' : Hp} (g : Gr H H') {a : Addr} {u : HO} (h : Rd H a u) (n : ∀ ps, u ≠ .tbl ps) : Rd H' a u := by
  rcases h with h | ⟨o, h⟩
  · exact .inl (g.same a _ h n)
  · exact .inr ⟨o, g.same a _ h (fun ps q => by cases q)⟩
theorem Gr.sql {K : PySem.W.Frag} {H H' : Hp} (g : Gr H H') {a : Addr} {xs : List V} (h : SqL K H a xs) : SqL K H' a xs := by
  rcases h with h | h
  · exact .inl (g.rd h fun ps q => by cases q)
  · exact .inr h
theorem Gr.sqt {K : PySem.W.Frag} {H H' : Hp} (g : Gr H H') {a : Addr} {xs : List V} (h : SqT K H a xs) : SqT K H' a xs := by
  rcases h with h | h
  · exact .inl (g.rd h fun ps q => by cases q)
  · exact .inr h
theorem Gr.free {H H' : Hp} (g : Gr H H') {a : Addr} (h : H' a = none) : H a = none ∨ ∃ ps, H a = some (.tbl ps) := by
  cases e : H a with
  | none => exact .inl rfl
  | some o =>
    by_cases q : ∃ ps, o = .tbl ps
    · obtain ⟨ps, q⟩ := q
      exact .inr ⟨ps, by rw [q]⟩
    · have := g.same a o e fun ps z => q ⟨ps, z⟩
      rw [this] at h; cases h
/-- an object that is neither of them -/
theorem Gr.ne {H H' : Hp} (g : Gr H H') {a p : Addr} {o : HO} (e : H a = some o) (n : ∀ ps, o ≠ .tbl ps) (h : H' p = none) : a ≠ p := fun z => by
  have := g.same a o e n
  rw [z, h] at this; cases this
mutual
theorem Gr.dp {K : PySem.W.Frag} {H H' : Hp} (g : Gr H H') : ∀ {v : V} {d : PyData}, Dp K H v d → Dp K H' v d
  | _, _, .non => .non
  | _, _, .bl b => .bl b
  | _, _, .int i => .int i
  | _, _, .str x => .str x
  | _, _, .lst h a => .lst (g.sql h) (Gr.dpAll g a)
  | _, _, .tup h a => .tup (g.sqt h) (Gr.dpAll g a)
theorem Gr.dpAll {K : PySem.W.Frag} {H H' : Hp} (g : Gr H H') : ∀ {vs : List V} {ds : List PyData}, DpAll K H vs ds → DpAll K H' vs ds
  | _, _, .nil => .nil
  | _, _, .cons h a => .cons (Gr.dp g h) (Gr.dpAll g a)
end
theorem DpAll.length {K : PySem.W.Frag} {H : Hp} : ∀ {vs : List V} {ds : List PyData}, DpAll K H vs ds → vs.length = ds.length
  | _, _, .nil => rfl
  | _, _, .cons _ a => congrArg (· + 1) (DpAll.length a)
theorem DpAll.get {K : PySem.W.Frag} {H : Hp} : ∀ {vs : List V} {ds : List PyData} {i : Nat} {v : V}, DpAll K H vs ds → vs[i]? = some v → ∃ d, ds[i]? = some d ∧ Dp K H v d
  | _, _, _, _, .nil, h => by simp at h
  | _, _, 0, v, .cons h a, e => by
    simp at e; subst e
    exact ⟨_, rfl, h⟩
  | _, _, i + 1, v, .cons h a, e => by
    obtain ⟨d, e1, e2⟩ := DpAll.get (i := i) a (by simpa using e)
    exact ⟨d, by simpa using e1, e2⟩

/-! ### kinds of data -/
def kindD : PyData → String
  | .none => "NoneType"
  | .bool _ => "bool"
  | .int _ => "int"
  | .str _ => "str"
  | .list _ => "list"
  | .tuple _ => "tuple"
  | .dict _ => "dict"
def isIntD : PyData → Bool
  | .int _ => true
  | _ => false
def isStrD : PyData → Bool
  | .str _ => true
  | _ => false
def isTupD : PyData → Bool
  | .tuple _ => true
  | _ => false
theorem tyD {K : PySem.W.Frag} {H : Hp} {v : V} {d : PyData} (h : Dp K H v d) : TyX K H v (.type (kindD d)) := by
  cases h with
  | non => exact .base .non
  | bl b => exact .base (.bl b)
  | int i => exact .base (.int i)
  | str x => exact .base (.str x)
  | lst h a =>
    rcases h with (h | ⟨o, h⟩) | ⟨o, vs, n, h1, h2, _⟩
    · exact .base (.lst h)
    · exact .base (.frz h)
    · exact .kList h1 h2
  | tup h a =>
    rcases h with (h | ⟨o, h⟩) | ⟨o, vs, n, h1, h2, _⟩
    · exact .base (.tup h)
    · exact .fTuple h
    · exact .kTuple h1 h2
/-- isinstance(x, T), x data, T a built-in class -/
def rIsD (K : PySem.W.Frag) : List V → Hp → VK → Prop := fun xs H Q => ∃ (x : V) (n : String) (d : PyData) (b : Bool), xs = [x, .ty n] ∧ Dp K H x d ∧ kitB (kindD d) n = some b ∧ Q (.bl b) H
theorem call_isD {X : Cx} : CallR X (.builtin "isinstance") (rIsD X.K) := by
  intro pins s σ H xs us Q I r h
  obtain ⟨x, n, d, b, rfl, hd, e, q⟩ := h
  exact call_isi pins s σ H _ us Q I r ⟨x, .ty n, _, _, b, rfl, .ty n, tyD hd, kit_ty e, q⟩
theorem kit_int (d : PyData) : kitB (kindD d) "int" = some (match d with | .int _ => true | .bool _ => true | _ => false) := by cases d <;> kernel_rfl
theorem kit_bool (d : PyData) : kitB (kindD d) "bool" = some (match d with | .bool _ => true | _ => false) := by cases d <;> kernel_rfl
theorem kit_tup (d : PyData) : kitB (kindD d) "tuple" = some (isTupD d) := by cases d <;> kernel_rfl
theorem kit_str (d : PyData) : kitB (kindD d) "str" = some (isStrD d) := by cases d <;> kernel_rfl

/-! ### all, any -/
section
variable {K : PySem.W.Frag} {P : Addr} {j : Nat} {te : TE} {vs : List Nat} {σ : L2.St} {H : Hp} {Q : VK}
/-- z: true all, false any -/
def foldB (z : Bool) (n : Nat) (f : Nat → Bool) : Bool := if z then (List.range n).all f else (List.range n).any f
def pre (z : Bool) (n : Nat) (f : Nat → Bool) : Prop := ∀ i, i < n → f i = z
theorem fold_pre {z : Bool} {n : Nat} {f : Nat → Bool} (h : pre z n f) : foldB z n f = z := by
  unfold foldB
  cases z with
  | true => simp only [if_true]; rw [List.all_eq_true]; intro x hx; exact h x (List.mem_range.mp hx)
  | false => simp only [Bool.false_eq_true, if_false]; rw [List.any_eq_false]; intro x hx; rw [h x (List.mem_range.mp hx)]; decide
theorem fold_out {z : Bool} {n i : Nat} {f : Nat → Bool} (hi : i < n) (h : f i ≠ z) : foldB z n f = f i := by
  unfold foldB
  cases z with
  | true =>
    have e : f i = false := by cases q : f i <;> simp_all
    simp only [if_true]; rw [e, List.all_eq_false]; exact ⟨i, List.mem_range.mpr hi, by rw [e]; decide⟩
  | false =>
    have e : f i = true := by cases q : f i <;> simp_all
    simp only [Bool.false_eq_true, if_false]; rw [e, List.any_eq_true]; exact ⟨i, List.mem_range.mpr hi, e⟩
theorem gx_core {J : It} {z : Bool} {H1 : Hp} {n : Nat} {xv : Nat → V} (f : Nat → Bool) (hw : ∀ x, wipe ((wipe σ vs).set j (some x)) vs = wipe σ vs)
    (hgo : ∀ i H, i < n → Gr H1 H → J.go i H) (hst : ∀ H, Gr H1 H → J.stop n H) (hy : ∀ i H x H', Gr H1 H → i < n → J.yld i H x H' → x = xv i ∧ H' = H)
    (hte : ∀ i H2, i < n → Gr H1 H2 → ∀ Qe : VK, (∀ H3, Gr H2 H3 → Qe (.bl (f i)) H3) → te ((wipe σ vs).set j (some (xv i))) H2 Qe)
    (hQ : ∀ H', Gr H1 H' → Q (.bl (foldB z n f)) H') {H2 : Hp} (h2 : Gr H1 H2) :
    ∃ W : Nat → Nat → Hp → Prop, (∃ m, W 0 m H2) ∧ GxW J (gName j) tYes te σ vs z Q W := by
  refine ⟨fun i m H => m = n - i ∧ i ≤ n ∧ Gr H1 H ∧ pre z i f, ⟨n, by simp, Nat.zero_le _, h2, fun i hi => absurd hi (Nat.not_lt_zero i)⟩, ?_⟩
  rintro i m H ⟨rfl, hi, hg, hp⟩
  by_cases hlt : i < n
  · refine .inr ⟨hgo i H hlt hg, fun H' => Gr H1 H' ∧ pre z (i + 1) f, fun H' ⟨a, b⟩ => ⟨n - (i + 1), by omega, rfl, hlt, a, b⟩, fun x H' y => ?_⟩
    obtain ⟨rfl, rfl⟩ := hy i H x H' hg hlt y
    refine ⟨hw _, ?_⟩
    show te _ H' _
    refine hte i _ hlt hg _ fun H3 g3 => ⟨f i, rfl, ?_⟩
    by_cases hf : f i = z
    · rw [if_pos hf]
      refine ⟨hg.trans g3, fun k hk => ?_⟩
      by_cases e : k = i
      · rw [e]; exact hf
      · exact hp k (by omega)
    · rw [if_neg hf, ← fold_out hlt hf]
      exact hQ _ (hg.trans g3)
  · have e : i = n := by omega
    subst e
    refine .inl ⟨hst H hg, ?_⟩
    rw [← fold_pre hp] 
    exact hQ H hg
/-- over a tuple -/
theorem gx_tup {z : Bool} {tl : TE} (hw : ∀ x, wipe ((wipe σ vs).set j (some x)) vs = wipe σ vs)
    (hl : tl σ H fun x H1 => ∃ (a : Addr) (xs : List V) (f : Nat → Bool), x = .ref a ∧ SqT K H1 a xs ∧ TabG H1 P ∧
      (∀ i x H2, xs[i]? = some x → Gr H1 H2 → ∀ Qe : VK, (∀ H3, Gr H2 H3 → Qe (.bl (f i)) H3) → te ((wipe σ vs).set j (some x)) H2 Qe) ∧ ∀ H', Gr H1 H' → Q (.bl (foldB z xs.length f)) H')
    (mono : ∀ {Q Q' : VK} {H}, (∀ v H', Q v H' → Q' v H') → tl σ H Q → tl σ H Q') :
    tGx P z (iTup K tl) (gName j) tYes te vs σ H Q := by
  refine mono (fun v H1 h => ?_) hl
  obtain ⟨a, xs, f, rfl, hq, ht, hte, hQ⟩ := h
  refine ⟨a, rfl, ⟨xs, hq⟩, ht, fun H2 h2 => ?_⟩
  refine gx_core (J := Itt K a) (n := xs.length) (xv := fun i => xs.getD i .non) f hw (fun i H hi g => ⟨xs, xs[i], g.sqt hq, by simp [hi]⟩) (fun H g => ⟨xs, g.sqt hq, Nat.le_refl _⟩) (fun i H x H' g hi y => ?_) (fun i H2 hi g Qe q => ?_) hQ (.tabbed ht h2)
  · obtain ⟨e, y⟩ := y
    have := y xs (g.sqt hq)
    exact ⟨by rw [List.getD_eq_getElem?_getD, this]; rfl, e⟩
  · have e : xs[i]? = some (xs.getD i .non) := by rw [List.getD_eq_getElem?_getD, List.getElem?_eq_getElem hi]; rfl
    exact hte i _ H2 e g Qe q
end
end Kx
/-! ## Sa -/
set_option Elab.async false
set_option linter.all false
set_option maxRecDepth 100000
set_option maxHeartbeats 4000000
/-! sets of at most four keys of any depth -/
namespace Ns
open PySem PySem.Spec PyProof.Rows L2
section
variable {P : Program} {w : World}
/-- asking of v whether it is of a class statement says no -/
def NoCls (P : Program) (w : World) (n : Nat) (s : Shared) (v : Value) : Prop := ∀ (A : Around) (E : Value → Shared → Prop) (Q : Bool → Shared → Prop), Q false s → wpAny (model P w) A (ofAClassStatement n v) Q E s
/-- v's hash goes by values -/
def ByVal (P : Program) (w : World) (n : Nat) (s : Shared) (v : Value) : Prop := ∀ (A : Around) (E : Value → Shared → Prop) (Q : Bool → Shared → Prop), Q true s → wpAny (model P w) A (hashByValue n v) Q E s
theorem noCls_tup {n m : Nat} {s : Shared} {p : Addr} {ob : Obj} {its : Array Value} (ho : s.heap.get? p = some ob) (hc : ob.cls = .type "tuple") (hd : ob.data = .seq its m) (hall : ∀ v ∈ its.toList, NoCls P w n s v) : NoCls P w (n + 1) s (.ref p) := fun A E Q q => by
  unfold ofAClassStatement
  refine wpAny_bind (wpAny_typeOf (T := "tuple") ⟨ob, ho, hc⟩ ?_)
  dsimp only
  have tt : (("tuple" : String) == "tuple") = true := by decide
  simp only [tt, if_true, Bool.not_true, Bool.false_eq_true, if_false]
  try refine wpAny_bind (wpAny_pure ?_)
  try simp only [Bool.not_true, Bool.false_eq_true, if_false]
  show wpAny _ _ (seqItems? (.ref p) >>= _) _ _ s
  refine wpAny_bind (wpAny_seqItems ho hd ?_)
  dsimp only
  refine wpAny_bind ?_
  show wpAny _ _ (forIn its _ _) _ _ s
  rw [← Array.forIn_toList]
  refine wpAny_forIn_list _ (fun left r z => r.1 = none ∧ z = s ∧ ∀ v ∈ left, NoCls P w n s v) _ ?_ ?_ _ _ ⟨rfl, rfl, hall⟩
  · rintro v left r z ⟨hr, rfl, hl⟩
    refine wpAny_bind (hl v List.mem_cons_self _ _ _ ?_)
    simp only [Bool.false_eq_true, if_false]
    exact wpAny_pure ⟨rfl, rfl, fun u hu => hl u (List.mem_cons_of_mem _ hu)⟩
  · rintro ⟨r1, r2⟩ z ⟨hr, rfl, _⟩
    simp only at hr
    subst hr
    exact wpAny_pure q
theorem byVal_tup {n m : Nat} {s : Shared} {p : Addr} {ob : Obj} {its : Array Value} (ho : s.heap.get? p = some ob) (hc : ob.cls = .type "tuple") (hd : ob.data = .seq its m) (hall : ∀ v ∈ its.toList, ByVal P w n s v) : ByVal P w (n + 1) s (.ref p) := fun A E Q q => by
  unfold hashByValue
  have hT : s.TypeIs (.ref p) "tuple" := ⟨ob, ho, hc⟩
  refine wpAny_bind (wpAny_specialOf hT F.slot_tuple_hash.lookup ?_)
  show wpAny _ _ (seqItems? (.ref p) >>= _) _ _ s
  refine wpAny_bind (wpAny_seqItems ho hd ?_)
  refine wpAny_bind ?_
  show wpAny _ _ (forIn its _ _) _ _ s
  rw [← Array.forIn_toList]
  refine wpAny_forIn_list _ (fun left r z => r.1 = none ∧ z = s ∧ ∀ v ∈ left, ByVal P w n s v) _ ?_ ?_ _ _ ⟨rfl, rfl, hall⟩
  · rintro v left r z ⟨hr, rfl, hl⟩
    refine wpAny_bind (hl v List.mem_cons_self _ _ _ ?_)
    simp only [Bool.not_true, Bool.false_eq_true, if_false]
    exact wpAny_pure ⟨rfl, rfl, fun u hu => hl u (List.mem_cons_of_mem _ hu)⟩
  · rintro ⟨r1, r2⟩ z ⟨hr, rfl, _⟩
    simp only at hr
    subst hr
    exact wpAny_pure q
/-- a key of whole numbers and tuples of such, no text -/
inductive NumK : NestedKey → Prop
  | num (i : Int) : NumK (.num i)
  | tup (ks : List NestedKey) : (∀ k ∈ ks, NumK k) → NumK (.tup ks)
mutual
theorem noCls_key : ∀ (k : NestedKey) (v : Value) (n : Nat) (s : Shared), NestedIs s.heap k v → k.depth ≤ n → NoCls P w n s v
  | .none, _, n, s, x, _ => by cases x; intro A E Q q; cases n <;> exact wpAny_pure q
  | .num i, _, n, s, x, _ => by cases x <;> (intro A E Q q; cases n <;> exact wpAny_pure q)
  | .text y, _, n, s, x, _ => by cases x; intro A E Q q; cases n <;> exact wpAny_pure q
  | .tup ks, _, n, s, x, hn => by
    cases x with
    | tup hg hc hd hk =>
      simp only [NestedKey.depth] at hn
      cases n with
      | zero => omega
      | succ n => exact noCls_tup hg hc hd (noCls_keys ks _ n s hk (by omega))
theorem noCls_keys : ∀ (ks : List NestedKey) (vs : List Value) (n : Nat) (s : Shared), NestedAll s.heap ks vs → NestedKey.depthAll ks ≤ n → ∀ v ∈ vs, NoCls P w n s v
  | [], _, n, s, x, _, v, hv => by cases x; cases hv
  | k :: ks, _, n, s, x, hn, v, hv => by
    cases x with
    | cons x1 x2 =>
      simp only [NestedKey.depthAll] at hn
      rcases List.mem_cons.mp hv with e | hv
      · subst e; exact noCls_key k _ n s x1 (by omega)
      · exact noCls_keys ks _ n s x2 (by omega) v hv
end
mutual
theorem byVal_key : ∀ (k : NestedKey) (v : Value) (n : Nat) (s : Shared), NumK k → NestedIs s.heap k v → k.depth ≤ n → ByVal P w n s v
  | .none, _, n, s, y, x, _ => nomatch y
  | .num i, _, n, s, y, x, _ => by cases x <;> (intro A E Q q; cases n <;> exact wpAny_pure q)
  | .text _, _, n, s, y, x, _ => nomatch y
  | .tup ks, _, n, s, y, x, hn => by
    cases x with
    | tup hg hc hd hk =>
      simp only [NestedKey.depth] at hn
      cases n with
      | zero => omega
      | succ n => exact byVal_tup hg hc hd (byVal_keys ks _ n s (by cases y with | tup _ h => exact h) hk (by omega))
theorem byVal_keys : ∀ (ks : List NestedKey) (vs : List Value) (n : Nat) (s : Shared), (∀ k ∈ ks, NumK k) → NestedAll s.heap ks vs → NestedKey.depthAll ks ≤ n → ∀ v ∈ vs, ByVal P w n s v
  | [], _, n, s, _, x, _, v, hv => by cases x; cases hv
  | k :: ks, _, n, s, y, x, hn, v, hv => by
    cases x with
    | cons x1 x2 =>
      simp only [NestedKey.depthAll] at hn
      rcases List.mem_cons.mp hv with e | hv
      · subst e; exact byVal_key k _ n s (y k List.mem_cons_self) x1 (by omega)
      · exact byVal_keys ks _ n s (fun z hz => y z (List.mem_cons_of_mem _ hz)) x2 (by omega) v hv
end
end
/-- the object at b is the key k, made of numbers -/
structure Kt (h : Heap) (k : NestedKey) (b : Addr) : Prop where
  is : NestedIs h k (.ref b)
  dp : k.depth ≤ 8
  nu : NumK k
theorem Kt.keep {h h' : Heap} {k : NestedKey} {b : Addr} (x : Kt h k b) (g : ∀ c o vs n, h.get? c = some o → o.data = .seq vs n → h'.get? c = some o) : Kt h' k b := ⟨NestedIs.at g k _ x.is, x.dp, x.nu⟩
section
variable {P : Program} {w : World} {A : Around} {E : Value → Shared → Prop} {s : Shared}
/-- a search among such keys shows nothing -/
theorem seenK {k : NestedKey} {b : Addr} {Q : Bool → Shared → Prop} (hb : Kt s.heap k b) {ys : List Value} (hy : ∀ y ∈ ys, ∃ k' c, y = Value.ref c ∧ Kt s.heap k' c) (q : Q false s) : wpAny (model P w) A (searchCouldBeSeen (.ref b) ys) Q E s := by
  unfold searchCouldBeSeen
  refine wpAny_bind ?_
  refine wpAny_forIn_list _ (fun left r z => r.1 = none ∧ z = s ∧ ∀ y ∈ left, ∃ k' c, y = Value.ref c ∧ Kt s.heap k' c) _ ?_ ?_ _ _ ⟨rfl, rfl, hy⟩
  · rintro v left r z ⟨hr, rfl, hl⟩
    obtain ⟨k', c, rfl, hc⟩ := hl v List.mem_cons_self
    have hl' : ∀ y ∈ left, ∃ k' c, y = Value.ref c ∧ Kt z.heap k' c := fun u hu => hl u (List.mem_cons_of_mem _ hu)
    dsimp only
    by_cases hv : (b == c || (carriedByValue (.ref b) && carriedByValue (.ref c))) = true
    · refine wp_if_pos hv ?_
      exact wpAny_pure ⟨rfl, rfl, hl'⟩
    · refine wp_if_neg hv ?_
      refine wpAny_bind (quiet_key k _ 8 z hb.is hb.dp _ _ _ ?_)
      simp only [Bool.not_true, Bool.false_eq_true, if_false]
      refine wpAny_bind (quiet_key k' _ 8 z hc.is hc.dp _ _ _ ?_)
      simp only [Bool.not_true, Bool.false_eq_true, if_false]
      refine wpAny_bind (noCls_key k _ 8 z hb.is hb.dp _ _ _ ?_)
      simp only [Bool.false_eq_true, if_false]
      refine wpAny_bind (noCls_key k' _ 8 z hc.is hc.dp _ _ _ ?_)
      simp only [Bool.false_eq_true, if_false]
      exact wpAny_pure ⟨rfl, rfl, hl'⟩
  · rintro ⟨r1, r2⟩ z ⟨hr, rfl, _⟩
    simp only at hr
    subst hr
    exact wpAny_pure q
/-- the set's rows -/
def rowsK (w : World) (L : List (Addr × NestedKey)) : List (Int × Value) := L.map fun p => (p.2.hash w, Value.ref p.1)
abbrev hsK (w : World) (L : List (Addr × NestedKey)) : List Int := L.map fun p => p.2.hash w
/-- the c-th step of a search -/
abbrev stp (m : Nat) (h : Int) (c : Nat) : SetTable.Probe := nth m (runAt m (SetTable.bits h % (m + 1)) (SetTable.bits h)) c
structure SetN (w : World) (h : Heap) (a : Addr) (L : List (Addr × NestedKey)) (es : Array (Int × Value)) (ep : Nat) (t : SetTable) : Prop where
  ob : ∃ o, h.get? a = some o ∧ o.ExactSet ∧ o.data = .set es ep t
  rows : es.toList = rowsK w L
  tab : TabOk t (hsK w L)
  nd : (L.map (·.2)).Nodup
  key : ∀ p ∈ L, Kt h p.2 p.1
  plain : t.plain = true
  led : w.params.followText "set-order" = true ∨ t.led = true
  mask : t.mask = 7
  few : L.length ≤ 4
variable {a : Addr} {L : List (Addr × NestedKey)} {es : Array (Int × Value)} {ep : Nat} {t : SetTable}
theorem SetN.size (G : SetN w s.heap a L es ep t) : es.size = L.length := by
  have h := congrArg List.length G.rows
  unfold rowsK at h
  rwa [Array.length_toList, List.length_map] at h
theorem SetN.placed (G : SetN w s.heap a L es ep t) : t.place.toList.length = L.length := by
  have h := G.tab.sz
  rw [List.length_map] at h
  rw [Array.length_toList]
  exact h
theorem SetN.fits (G : SetN w s.heap a L es ep t) : t.fits es.size = true := by
  have h1 := G.placed
  rw [Array.length_toList] at h1
  have h2 := G.size
  have h3 := G.few
  have h4 := G.mask
  unfold SetTable.fits SetTable.fill
  rw [G.tab.dm, Bool.and_eq_true, beq_iff_eq, decide_eq_true_eq]
  refine ⟨by omega, ?_⟩
  show t.place.size + 0 ≤ t.mask
  omega
theorem SetN.entry (G : SetN w s.heap a L es ep t) {i : Nat} {p : Addr × NestedKey} (h : L[i]? = some p) : es[i]? = some (p.2.hash w, Value.ref p.1) := by
  have e : es.toList[i]? = some (p.2.hash w, Value.ref p.1) := by
    rw [G.rows]
    unfold rowsK
    rw [List.getElem?_map, h]
    rfl
  rwa [Array.getElem?_toList] at e
theorem SetN.gave (G : SetN w s.heap a L es ep t) : ¬ t.gaveWay = true := by
  unfold SetTable.gaveWay
  rw [G.mask]
  decide
theorem stp_dummy (m : Nat) (h : Int) (c : Nat) : (stp m h c).dummy = none := by
  have key : ∀ (n : Nat) (p : SetTable.Probe), p.dummy = none → (nth m p n).dummy = none := fun n => by
    induction n with
    | zero => exact fun _ e => e
    | succ n ih =>
      intro p e
      refine ih (adv m p) ?_
      unfold adv
      split
      · exact e
      · exact e
  exact key c _ rfl
theorem stp_add (m : Nat) (h : Int) (c q : Nat) : nth m (stp m h c) q = stp m h (c + q) := (nth_add m c _ q).symm
/-- what comes of a step c of the search -/
theorem step_cases (G : SetN w s.heap a L es ep t) {h : Int} {K c : Nat} (hKf : K < 10 * SetTable.turns t.mask) (hK : (stp t.mask h K).j ∉ t.place.toList) (hb : ∀ c, c < K → (stp t.mask h c).j ∈ t.place.toList) (hc : c ≤ K) :
    (∃ (q i : Nat) (p : Addr × NestedKey), c ≤ q ∧ q < K ∧ L[i]? = some p ∧ t.place.toList[i]? = some (stp t.mask h q).j ∧ p.2.hash w = h ∧ (∀ (q' i' : Nat) (p' : Addr × NestedKey), c ≤ q' → q' < q → L[i']? = some p' → t.place.toList[i']? = some (stp t.mask h q').j → p'.2.hash w ≠ h) ∧
      t.probe (fun i => (es[i]?.map (·.1)).getD 0) h (stp t.mask h c) = some (.candidate (stp t.mask h q).j i (stp t.mask h (q + 1)))) ∨
    ((∀ (q' i' : Nat) (p' : Addr × NestedKey), c ≤ q' → q' < K → L[i']? = some p' → t.place.toList[i']? = some (stp t.mask h q').j → p'.2.hash w ≠ h) ∧ t.probe (fun i => (es[i]?.map (·.1)).getD 0) h (stp t.mask h c) = some (.empty (stp t.mask h K).j none)) := by
  have at_ : ∀ (i : Nat) p, L[i]? = some p → (fun i => (es[i]?.map (·.1)).getD 0) i = p.2.hash w := fun i p hp => by
    show (es[i]?.map (·.1)).getD 0 = _
    rw [G.entry hp]
    rfl
  have sp := go_spec t G.tab.ris G.tab.dm (fun i => (es[i]?.map (·.1)).getD 0) h (10 * SetTable.turns t.mask) (K - c) (stp t.mask h c) (stp_dummy _ _ _) (by omega)
    (fun q hq => by rw [stp_add]; exact hb _ (by omega)) (by rw [stp_add, show c + (K - c) = K by omega]; exact hK)
  rcases sp with ⟨q, i, hq, hi, hh, hno, hpr⟩ | ⟨hno, hpr⟩
  · rw [stp_add] at hi hpr
    rw [stp_add] at hpr
    have hil : i < L.length := by
      have := (List.getElem?_eq_some_iff.mp hi).1
      rw [G.placed] at this
      exact this
    have hp : L[i]? = some L[i] := List.getElem?_eq_getElem hil
    refine .inl ⟨c + q, i, L[i], by omega, by omega, hp, hi, (at_ i _ hp).symm.trans hh, fun q' i' p' h1 h2 h3 h4 => ?_, hpr⟩
    have z := hno (q' - c) i' (by omega) (by rw [stp_add, show c + (q' - c) = q' by omega]; exact h4)
    exact fun e => z ((at_ i' p' h3).trans e)
  · rw [stp_add, show c + (K - c) = K by omega] at hpr
    refine .inr ⟨fun q' i' p' h1 h2 h3 h4 => ?_, hpr⟩
    have z := hno (q' - c) i' (by omega) (by rw [stp_add, show c + (q' - c) = q' by omega]; exact h4)
    exact fun e => z ((at_ i' p' h3).trans e)
theorem searchN (G : SetN w s.heap a L es ep t) {x : Addr} {k : NestedKey} (hx : Kt s.heap k x) (hu : A.units + 8 < cLine) {K : Nat} (hKf : K < 10 * SetTable.turns t.mask) (hK : (stp t.mask (k.hash w) K).j ∉ t.place.toList)
    (hb : ∀ c, c < K → (stp t.mask (k.hash w) c).j ∈ t.place.toList) {Q : SetFound → Shared → Prop} (yes : k ∈ L.map (·.2) → Q (.there none) s) (no : k ∉ L.map (·.2) → Q (.free (stp t.mask (k.hash w) K).j false) s) :
    ∀ (f c : Nat) (stand : Option SetTable.Probe), stand.getD (t.probeStart (k.hash w)) = stp t.mask (k.hash w) c → c ≤ K → K - c < f →
      (∀ (i : Nat) p, L[i]? = some p → p.2 = k → ∃ c', c ≤ c' ∧ c' < K ∧ t.place.toList[i]? = some (stp t.mask (k.hash w) c').j) →
      wpAny (model P w) A (setSearchFrom a (.ref x) (k.hash w) true f stand) Q E s
  | 0, c, stand, _, _, hf, _ => absurd hf (Nat.not_lt_zero _)
  | f + 1, c, stand, hst, hc, hf, hre => by
    obtain ⟨o, gO, gE, gD⟩ := G.ob
    rw [setSearchFrom_succ]
    refine wpAny_bind (wpAny_setState_of gO gD G.fits ?_)
    dsimp only
    refine wp_if_neg G.gave ?_
    try refine wpAny_bind (wpAny_pure ?_)
    rw [hst]
    rcases step_cases G hKf hK hb hc with ⟨q, i, p, q1, q2, hp, hi, hh, hno, hpr⟩ | ⟨hno, hpr⟩
    · rw [hpr]
      dsimp only
      have pm : p ∈ L := List.mem_of_getElem? hp
      have rest : wpAny (model P w) A (searchRest a (.ref x) (k.hash w) true f es t (stp t.mask (k.hash w) q).j i (stp t.mask (k.hash w) (q + 1))) Q E s := by
        unfold searchRest
        rw [G.entry hp]
        dsimp only
        refine wpAny_bind (wpAny_holding ((nestedKind P w).eqBool hu ⟨(G.key p pm).is, (G.key p pm).dp⟩ ⟨hx.is, hx.dp⟩ ?_))
        refine wpAny_bind (wpAny_setState_of gO gD G.fits ?_)
        dsimp only
        by_cases hkk : p.2 = k
        · refine wp_if_pos (by simp [hkk]) ?_
          exact wpAny_pure (yes (List.mem_map.mpr ⟨p, pm, hkk⟩))
        · refine wp_if_neg (by simp [hkk]) ?_
          try refine wpAny_bind (wpAny_pure ?_)
          rw [sameMem]
          dsimp only
          have live : t.slot (stp t.mask (k.hash w) q).j = .live i := slot_live G.tab.ris hi
          simp only [if_true, live, G.entry hp]
          refine wpAny_bind (wpAny_isSame_ref_self (wpAny_bind (wpAny_pure ?_)))
          simp only [if_true]
          refine wp_if_neg (by simp [hkk]) ?_
          refine searchN G hx hu hKf hK hb yes no f (q + 1) _ rfl (by omega) (by omega) fun i0 p0 h0 hk0 => ?_
          obtain ⟨c', c1, c2, c3⟩ := hre i0 p0 h0 hk0
          refine ⟨c', ?_, c2, c3⟩
          have ne : c' ≠ q := fun e => by
            rw [e] at c3
            have l2 := slot_live G.tab.ris c3
            rw [live] at l2
            injection l2 with l2
            rw [← l2, hp] at h0
            exact hkk ((congrArg Prod.snd (Option.some.inj h0)).trans hk0)
          have ge : ¬ c' < q := fun lt => hno c' i0 p0 c1 lt h0 c3 (by rw [hk0])
          omega
      by_cases hl : t.led = true
      · refine wp_if_neg (by simp [hl]) ?_
        try refine wpAny_bind (wpAny_pure ?_)
        exact rest
      · refine wp_if_pos (by simp [hl]) ?_
        refine wpAny_bind (seenK hx (fun y hy => ?_) ?_)
        · obtain ⟨e, he, rfl⟩ := List.mem_map.mp hy
          have he2 : e ∈ es.toList := by
            have z : e ∈ es ∧ e.1 = k.hash w := by simpa using he
            simpa using z.1
          rw [G.rows] at he2
          obtain ⟨r, hr, rfl⟩ := List.mem_map.mp he2
          exact ⟨r.2, r.1, rfl, G.key r hr⟩
        · refine wp_if_neg (by decide) ?_
          try refine wpAny_bind (wpAny_pure ?_)
          exact rest
    · rw [hpr]
      dsimp only
      refine wpAny_pure (no fun hm => ?_)
      obtain ⟨p0, h0, hk0⟩ := List.mem_map.mp hm
      obtain ⟨i0, hi0, e0⟩ := List.getElem_of_mem h0
      have h00 : L[i0]? = some p0 := by rw [List.getElem?_eq_getElem hi0, e0]
      obtain ⟨c', c1, c2, c3⟩ := hre i0 p0 h00 hk0
      exact hno c' i0 p0 c1 c2 h00 c3 (by rw [hk0])
theorem searchN0 (G : SetN w s.heap a L es ep t) {x : Addr} {k : NestedKey} (hx : Kt s.heap k x) (hu : A.units + 8 < cLine) {Q : SetFound → Shared → Prop} (yes : k ∈ L.map (·.2) → Q (.there none) s)
    (no : ∀ K, k ∉ L.map (·.2) → way t.mask (k.hash w) K ∉ t.place.toList → (∀ c, c < K → way t.mask (k.hash w) c ∈ t.place.toList) → Q (.free (way t.mask (k.hash w) K) false) s) : wpAny (model P w) A (setSearch a (.ref x) (k.hash w) true) Q E s := by
  obtain ⟨K, kf, k1, k2⟩ := G.tab.first (by rw [List.length_map, G.mask]; have := G.few; omega) (k.hash w)
  have lim : K < 100000 := by
    have : 10 * SetTable.turns t.mask ≤ 1420 := by
      unfold SetTable.turns
      rw [G.mask]
      omega
    omega
  unfold setSearch
  refine searchN G hx hu kf k1 k2 yes (fun z => no K z k1 k2) 100000 0 none rfl (Nat.zero_le _) (by omega) fun i p hp hk => ?_
  have hi : (hsK w L)[i]? = some (k.hash w) := by rw [List.getElem?_map, hp, ← hk]; rfl
  have il : i < t.place.toList.length := by
    rw [G.placed]
    exact (List.getElem?_eq_some_iff.mp hp).1
  obtain ⟨c, hc, e⟩ := G.tab.before k1 hi (List.getElem?_eq_getElem il)
  exact ⟨c, Nat.zero_le _, hc, by rw [List.getElem?_eq_getElem il, ← e]⟩
/-- adding one -/
theorem addN (G : SetN w s.heap a L es ep t) {x : Addr} {k : NestedKey} (hx : Kt s.heap k x) (hu : A.units + 8 < cLine) (room : L.length < 4) {Q : Bool → Shared → Prop}
    (hQ : ∀ b h' L' es' ep' t', Heap.SameBut a s.heap h' → SetN w h' a L' es' ep' t' → (k ∈ L.map (·.2) → L' = L) → (k ∉ L.map (·.2) → L'.Perm ((x, k) :: L)) → Q b { s with heap := h' }) :
    wpAny (model P w) A (setAddHashed a (.ref x) (k.hash w)) Q E s := by
  obtain ⟨o, gO, gE, gD⟩ := G.ob
  unfold setAddHashed
  refine wpAny_holding ?_
  rw [show (100000 : Nat) = 99999 + 1 from rfl, setAddHashedIn_succ]
  refine wpAny_bind (wpAny_setState_of gO gD G.fits ?_)
  dsimp only
  refine wp_if_neg (by simp [byScan, Value.scannable]) ?_
  try refine wpAny_bind (wpAny_pure ?_)
  refine wpAny_bind (searchN0 G hx hu (fun hm => ?_) fun K hm h1 h2 => ?_)
  · dsimp only
    exact wpAny_pure (hQ false s.heap L es ep t (Heap.SameBut.refl a s.heap) G (fun _ => rfl) fun z => absurd hm z)
  · dsimp only
    refine wpAny_bind (wpAny_setState_of gO gD G.fits ?_)
    dsimp only
    obtain ⟨q1, q2, q3, q4, q5, q6, q7, q8, q9⟩ := G.tab.put h1 h2
    have pl1 : (t.put (way t.mask (k.hash w) K)).1.plain = true := by rw [q6]; exact G.plain
    generalize hpt : t.put (way t.mask (k.hash w) K) = pt at q1 q3 q4 q5 q6 q7 q8 q9 pl1 ⊢
    obtain ⟨t1, p⟩ := pt
    dsimp only at q1 q3 q4 q5 q6 q7 q8 q9 pl1 ⊢
    subst q1
    first
      | (refine wpAny_bind ?_; refine wp_if_pos pl1 ?_; refine byVal_key k _ 8 s hx.nu hx.is hx.dp _ _ _ ?_)
      | refine wp_if_pos pl1 (wpAny_bind (byVal_key k _ 8 s hx.nu hx.is hx.dp _ _ _ ?_))
    simp only [if_true]
    have hin : (SetTable.insertAt es (SetTable.below t.place (way t.mask (k.hash w) K)) (k.hash w, Value.ref x)).toList = rowsK w (L.take (SetTable.below t.place (way t.mask (k.hash w) K)) ++ (x, k) :: L.drop (SetTable.below t.place (way t.mask (k.hash w) K))) := by
      rw [SetTable.toList_insertAt, G.rows]
      unfold rowsK
      rw [List.map_append, List.map_cons, List.map_take, List.map_drop]
    generalize hpp : SetTable.below t.place (way t.mask (k.hash w) K) = p at q2 q3 hin ⊢
    have pm := put_perm L p (x, k)
    have len1 : (L.take p ++ (x, k) :: L.drop p).length = L.length + 1 := pm.length_eq
    have hs1 : hsK w (L.take p ++ (x, k) :: L.drop p) = (hsK w L).take p ++ k.hash w :: (hsK w L).drop p := by
      unfold hsK
      rw [List.map_append, List.map_cons, List.map_take, List.map_drop]
    rw [← hs1] at q3
    have nd1 : ((L.take p ++ (x, k) :: L.drop p).map (·.2)).Nodup := by
      refine (pm.map (·.2)).nodup_iff.mpr ?_
      rw [List.map_cons]
      exact List.nodup_cons.mpr ⟨hm, G.nd⟩
    have size1 : (SetTable.insertAt es p (k.hash w, Value.ref x)).size = L.length + 1 := by
      have h := congrArg List.length hin
      unfold rowsK at h
      rwa [Array.length_toList, List.length_map, len1] at h
    generalize SetTable.insertAt es p (k.hash w, Value.ref x) = es1 at hin size1 ⊢
    generalize L.take p ++ (x, k) :: L.drop p = L1 at pm len1 q3 nd1 hin
    refine wpAny_bind (wpAny_storeSet_of gO gD ?_ (by rw [size1, sizeLine_eq]; omega))
    have sb : Heap.SameBut a s.heap (s.heap.update a (Obj.putSet es1 t1)) := Heap.SameBut.update ..
    have put1 := store_at (es' := es1) (t' := t1) gO gD
    generalize s.heap.update a (Obj.putSet es1 t1) = g1 at sb put1 ⊢
    have sq : ∀ c o' vs n, s.heap.get? c = some o' → o'.data = .seq vs n → g1.get? c = some o' := fun c o' vs n e1 e2 => by
      have ne : c ≠ a := fun z => by
        subst z
        rw [gO] at e1
        cases e1
        rw [gD] at e2
        cases e2
      rw [sb.2 c ne]
      exact e1
    have key1 : ∀ r ∈ L1, Kt g1 r.2 r.1 := fun r hr => by
      rcases List.mem_cons.mp (pm.mem_iff.mp hr) with e | hr
      · rw [e]; exact hx.keep sq
      · exact (G.key r hr).keep sq
    have nofull : ¬ t1.tooFull = true := by
      unfold SetTable.tooFull
      rw [decide_eq_true_eq, q9, List.length_map, q4, G.mask]
      omega
    first
      | refine wp_if_neg (by simp [nofull]) ?_
      | (refine wpAny_bind ?_; refine wp_if_neg (by simp [nofull]) ?_; refine wpAny_pure ?_)
    exact wpAny_pure (hQ true g1 L1 es1 (ep + 1) t1 sb ⟨⟨_, put1, ⟨gE.1, gE.2.1, gE.2.2⟩, rfl⟩, hin, q3, nd1, key1, pl1, by rw [q5]; exact G.led, by rw [q4]; exact G.mask, by omega⟩ (fun z => absurd z hm) fun _ => pm)
end
end Ns
/-! ## Sb -/
set_option Elab.async false
set_option linter.all false
set_option maxRecDepth 100000
set_option maxHeartbeats 4000000
/-! set(xs), sorted(set) of such keys -/
namespace Ns
open PySem PySem.Spec PyProof.Rows L2
/-- what the set has got from the first i items -/
structure GotN (ks : List (Addr × NestedKey)) (i : Nat) (L : List (Addr × NestedKey)) : Prop where
  sub : ∀ p ∈ L, p ∈ ks
  len : L.length ≤ i
section
variable {P : Program} {w : World} {A : Around} {E : Value → Shared → Prop} {s : Shared}
theorem SetN.keep {h h' : Heap} {a : Addr} {L : List (Addr × NestedKey)} {es : Array (Int × Value)} {ep : Nat} {t : SetTable} (G : SetN w h a L es ep t) (ha : ∀ o, h.get? a = some o → h'.get? a = some o) (hk : ∀ p ∈ L, Kt h' p.2 p.1) : SetN w h' a L es ep t := by
  obtain ⟨o, ho, r⟩ := G.ob
  exact ⟨⟨o, ha o ho, r⟩, G.rows, G.tab, G.nd, hk, G.plain, G.led, G.mask, G.few⟩
abbrev newO (w : World) : Obj := { cls := .type "set", dict := none, data := .set #[] 0 (.fresh 0 0 (!w.params.followText "set-order")) }
theorem setN_new {h : Heap} {a : Addr} (ho : h.get? a = some (newO w)) : SetN w h a [] #[] 0 (.fresh 0 0 (!w.params.followText "set-order")) := by
  refine ⟨⟨_, ho, ⟨rfl, rfl, rfl⟩, rfl⟩, rfl, ⟨List.Pairwise.nil, rfl, rfl, .inl rfl, fun x hx => ?_, fun i h j hi => ?_⟩, List.nodup_nil, fun p hp => ?_, rfl, ?_, rfl, Nat.zero_le _⟩
  · cases hx
  · simp at hi
  · cases hp
  · show _ ∨ (!w.params.followText "set-order") = true
    cases w.params.followText "set-order" with
    | true => exact .inl rfl
    | false => exact .inr rfl
/-- the loop of set.update -/
theorem loopN {I : Addr} {fp wr : List Addr} {G : Array GenState → Array GenState → Prop} {n : Nat} {Pv : Nat → Value → Prop} {St : Nat → Shared → Prop} {R : Result → Shared → Prop} (W : WalksS P w A.in1 I fp wr G n Pv St) (S : Addr) (hSf : S ∉ fp) (ks : List (Addr × NestedKey)) (hn : n = ks.length)
    (few : ks.length ≤ 4) (hv : ∀ i v, Pv i v → ∃ p, ks[i]? = some p ∧ v = .ref p.1) (h0 : Heap) (hk : ∀ p ∈ ks, Kt h0 p.2 p.1) (hS0 : h0.get? S = none) (hw0 : ∀ b ∈ wr, h0.get? b = none) (hu : A.in1.units + 8 < cLine) :
    ∀ (k i : Nat) (s : Shared), n - i = k → i ≤ n → St i s → (∀ b o, h0.get? b = some o → s.heap.get? b = some o) → (∃ L es ep t, SetN w s.heap S L es ep t ∧ GotN ks i L) →
      (∀ s' L es ep t, Moved (S :: wr) G s s' → SetN w s'.heap S L es ep t → GotN ks n L → (∀ b o, h0.get? b = some o → s'.heap.get? b = some o) → R (.ok (.ret .none)) s') → codeAny (model P w) A (.builtin "set.update.loop" ⟨[.ref S, .ref I], []⟩) R s := by
  have nSw : S ∉ wr := fun z => hSf (W.sub _ z)
  have up : ∀ b ∈ wr, b ∈ S :: wr := fun b hb => List.mem_cons_of_mem _ hb
  have still : ∀ {s s' : Shared}, Moved wr G s s' → (∀ b o, h0.get? b = some o → s.heap.get? b = some o) → ∀ b o, h0.get? b = some o → s'.heap.get? b = some o := fun hm g b o e => hm.heap b o (fun z => by rw [hw0 b z] at e; cases e) (g b o e)
  intro k
  induction k with
  | zero =>
    intro i s e0 hi hst g ⟨L, es, ep, t, hS, got⟩ hR
    have ei : i = n := by omega
    subst ei
    refine codeAny_builtin F.entry_set_update_loop ?_
    rw [Around.under_plainId F.plain_set_update_loop _]
    show wpAny _ A.in1 (pyNext (.ref I) >>= _) _ _ s
    refine wpAny_bind (W.done s _ _ hst fun s' hm => ?_)
    show wpAny _ A.in1 (ret Value.none) _ _ s'
    have g' := still hm g
    exact wpAny_pure (hR s' L es ep t (hm.mono up) (hS.keep (fun o z => hm.heap S o nSw z) fun p hp => (hk p (got.sub p hp)).keep fun c o _ _ z _ => g' c o z) got g')
  | succ k ih =>
    intro i s e0 hi hst g ⟨L, es, ep, t, hS, got⟩ hR
    have lt : i < n := by omega
    refine codeAny_builtin F.entry_set_update_loop ?_
    rw [Around.under_plainId F.plain_set_update_loop _]
    show wpAny _ A.in1 (pyNext (.ref I) >>= _) _ _ s
    refine wpAny_bind (W.item i s _ _ lt hst fun v s' hP hst' hm => ?_)
    obtain ⟨p, hp, rfl⟩ := hv i v hP
    have g' := still hm g
    have hS' : SetN w s'.heap S L es ep t := hS.keep (fun o z => hm.heap S o nSw z) fun q hq => (hk q (got.sub q hq)).keep fun c o _ _ z _ => g' c o z
    have pm := List.mem_of_getElem? hp
    have hx : Kt s'.heap p.2 p.1 := (hk p pm).keep fun c o _ _ z _ => g' c o z
    show wpAny _ A.in1 (holding [Value.ref p.1] (setAdd S (.ref p.1)) >>= _) _ _ s'
    refine wpAny_bind (wpAny_holding ?_)
    unfold setAdd
    refine wpAny_holding ?_
    refine wpAny_bind (pyHash_key p.2 _ _ _ _ hx.is (by have := hx.dp; omega) ?_)
    refine addN (s := { s' with toks := s'.toks + p.2.draws }) hS' hx hu (by have := got.len; omega) fun b h' L' es' ep' t' sb hS2 c1 c2 => ?_
    have got' : GotN ks (i + 1) L' := by
      rcases Classical.em (p.2 ∈ L.map (·.2)) with c | c
      · rw [c1 c]; exact ⟨got.sub, Nat.le_succ_of_le got.len⟩
      · refine ⟨fun q hq => ?_, ?_⟩
        · rcases List.mem_cons.mp ((c2 c).mem_iff.mp hq) with e | hq
          · rw [e]; exact pm
          · exact got.sub q hq
        · rw [(c2 c).length_eq, List.length_cons]
          exact Nat.succ_le_succ got.len
    have g2 : ∀ b o, h0.get? b = some o → h'.get? b = some o := fun b o e => (sb.2 b (fun z => by rw [z, hS0] at e; cases e)).trans (g' b o e)
    refine wpAny_pure ⟨plainId_quiet F.plain_set_update_loop _, ih (i + 1) _ (by omega) lt (W.frame _ s' _ _ hst' (Nat.le_add_right _ _) fun b hb o e => ?_) g2 ⟨L', es', ep', t', hS2, got'⟩ fun s3 L3 es3 ep3 t3 hm3 hS3 got3 g3 => ?_⟩
    · rw [sb.2 b (fun z : b = S => hSf (by rw [← z]; exact hb))]; exact e
    · refine hR s3 L3 es3 ep3 t3 (Moved.trans W.gtrans ((hm.mono up).then_heap (Nat.le_add_right _ _) fun b o hb e => ?_) hm3) hS3 got3 g3
      rw [sb.2 b (fun z : b = S => hb (by rw [z]; exact List.mem_cons_self))]; exact e
set_option maxHeartbeats 8000000 in
/-- set(xs) -/
theorem call_setN {l : Addr} {items : Array Value} (ks : List (Addr × NestedKey)) {Q : Value → Shared → Prop} (hh : A.handled = none) (hl : s.heap.IsList l items) (hit : items.toList = ks.map fun p => Value.ref p.1) (hk : ∀ p ∈ ks, Kt s.heap p.2 p.1) (few : ks.length ≤ 4) (hu : A.units + 16 < cLine)
    (q : ∀ (h' : Heap) (tk : Nat) L es ep t, SetN w h' s.heap.objs.size L es ep t → GotN ks ks.length L → (∀ b o, s.heap.get? b = some o → h'.get? b = some o) → Q (.ref s.heap.objs.size) { s with heap := h', toks := tk }) : wpAny (model P w) A (call (.type "set") [.ref l]) Q E s := by
  have isz : items.size = ks.length := by
    have e := congrArg List.length hit
    rwa [Array.length_toList, List.length_map] at e
  obtain ⟨c, tl, hmro⟩ := F.called_set.mro
  have hmade := F.called_set.made
  have hsub := F.called_set.sub
  refine wpAny_call (codeAny_of_tree ?_)
  show wpAny _ _ (callAny (.type "set") _) _ _ _
  refine wpAny_pure ⟨Code.quiet_builtin _ (by decide +kernel), codeAny_builtin F.entry_type_call ?_⟩
  rw [Around.under_plain (weight_type_call_type "set" [.ref l] []) rfl]
  have h1 := F.called_set.notType
  have h2 := F.called_set.canCreate
  have hct := F.typeCall_set_1 (.ref l)
  repeat (any_goals (first | assumption | wp_step))
  refine codeAny_mono (code_set_led1 (.ref l) (E := E) (Q₁ := fun obj s₁ => obj = .ref s.heap.objs.size ∧ s₁ = { s with heap := s.heap.push (newO w) }) ⟨rfl, rfl⟩) fun r s₁ hr => ?_
  cases r with
  | error e => exact hr
  | ok fl =>
    cases fl with
    | ret obj =>
      obtain ⟨rfl, rfl⟩ := hr
      have hS : (s.heap.push (newO w)).get? s.heap.objs.size = some (newO w) := Heap.get?_push_size _ rfl
      have hT : Shared.TypeIs { s with heap := s.heap.push (newO w) } (.ref s.heap.objs.size) "set" := ⟨_, hS, rfl⟩
      have hli := F.called_set.init.lookup
      have hbi := F.called_set.init.bind (.ref s.heap.objs.size)
      repeat (any_goals (first | assumption | wp_step))
      refine codeAny_mono (codeAny_call_builtin (R := wants (fun r s₂ => r = .none ∧ ∃ h' tk L es ep t, s₂ = { s with heap := h', toks := tk } ∧ SetN w h' s.heap.objs.size L es ep t ∧ GotN ks ks.length L ∧ (∀ b o, s.heap.get? b = some o → h'.get? b = some o)) E) F.called_set.init.plain F.entry_set_init (check_set_init_1 hT ?_)) fun r₂ s₂ hr₂ => ?_
      · obtain ⟨ol, hol, hcl, nl, hdl⟩ := hl
        obtain ⟨ocls, odict, odata, oslots⟩ := ol
        simp only at hcl hdl
        subst hcl; subst hdl
        have hol' : (s.heap.push (newO w)).get? l = some { cls := .type "list", dict := odict, data := .seq items nl, slots := oslots } := Heap.get?_push_of_some _ hol
        have hsls := F.sub_list_set
        have hslf := F.sub_list_frozenset
        have nDict : (Value.type "list" == Value.type "dict") = false := by decide
        have hl1 : (s.heap.push (newO w)).IsList l items := ⟨_, hol', rfl, nl, rfl⟩
        unfold Builtin.«set.__init__» noKeywords Builtin.Frozenset.updateFrom
        generalize hPI : pyIter = PI
        wp_walk
        subst hPI
        refine wpAny_pyIter_list hl1 ?_
        refine wpAny_bind (wpAny_runValue ?_)
        have lS : l < s.heap.objs.size := Heap.lt_size hol
        have hh3 : A.in1.in1.in1.handled = none := by simp [hh]
        have nI : l ≠ (s.heap.push (newO w)).objs.size := by
          rw [Heap.size_push]; exact Nat.ne_of_lt (Nat.lt_succ_of_lt lS)
        have nSf : s.heap.objs.size ∉ [(s.heap.push (newO w)).objs.size, l] := by
          rw [Heap.size_push]; simp only [List.mem_cons, List.mem_singleton, List.not_mem_nil, or_false, not_or]
          exact ⟨Nat.ne_of_lt (Nat.lt_succ_self _), Nat.ne_of_gt lS⟩
        have vals : ∀ (i : Nat) (v : Value), items[i]? = some v → ∃ p, ks[i]? = some p ∧ v = .ref p.1 := fun i v e => by
          have e2 : items.toList[i]? = some v := by rw [Array.getElem?_toList]; exact e
          rw [hit, List.getElem?_map] at e2
          cases e3 : ks[i]? with
          | none => rw [e3] at e2; cases e2
          | some p => rw [e3] at e2; exact ⟨p, rfl, (Option.some.inj e2).symm⟩
        have fresh : ∀ b, s.heap.objs.size ≤ b → s.heap.get? b = none := fun b hb => by
          cases e : s.heap.get? b with
          | none => rfl
          | some o => exact absurd (Nat.lt_of_lt_of_le (Heap.lt_size e) hb) (Nat.lt_irrefl _)
        refine loopN ((Walks.list hh3 _ l nI items).toS) s.heap.objs.size nSf ks isz few vals s.heap hk (fresh _ (Nat.le_refl _)) (fun b hb => fresh b (by rw [List.mem_singleton.mp hb, Heap.size_push]; exact Nat.le_succ _))
          (by show A.units + 1 + 1 + 1 + 8 < cLine; omega) (items.size - 0) 0 _ (by omega) (Nat.zero_le _) ⟨⟨_, Heap.get?_push_size _ rfl, rfl, rfl⟩, (hl1.push _)⟩ (fun b o e => Heap.get?_push_of_some _ (Heap.get?_push_of_some _ e)) ?hS0 ?hR
        case hS0 =>
          have hget : ((s.heap.push (newO w)).push { cls := .type "list_iterator", data := .fields #[.ref l, .int 0 0] }).get? s.heap.objs.size = some (newO w) := Heap.get?_push_of_some _ hS
          exact ⟨[], #[], 0, _, setN_new hget, ⟨fun p hp => (by cases hp), Nat.le_refl _⟩⟩
        case hR =>
          intro s' L es ep t hm hS' got' g'
          obtain ⟨h', g2, d', tk', os'⟩ := s'
          have eg : g2 = s.gens := hm.gens
          have ed : d' = s.drawn := hm.drawn
          have eo : os' = s.os := hm.os
          subst eg; subst ed; subst eo
          show wpAny _ _ _ _ _ _
          refine wpAny_pure ?_
          show wpAny _ _ (ret Value.none) _ _ _
          rw [isz] at got'
          exact wpAny_pure ⟨rfl, h', tk', L, es, ep, t, rfl, hS', got', g'⟩
      · cases r₂ with
        | error e => exact hr₂
        | ok fl₂ =>
          cases fl₂ with
          | ret r =>
            obtain ⟨rfl, h', tk, L, es, ep, t, rfl, hS', got', g'⟩ := hr₂
            repeat (any_goals (first | assumption | wp_step))
            exact q _ _ _ _ _ _ hS' got' g'
          | _ => exact hr₂.elim
    | _ => exact hr.elim
end
end Ns
/-! ## Sc -/
set_option Elab.async false
set_option linter.all false
set_option maxRecDepth 100000
set_option maxHeartbeats 4000000
/-! sorted(set) of such keys -/
namespace Ns
open PySem PySem.Spec PyProof.Rows L2
section
variable {P : Program} {w : World} {A : Around} {E : Value → Shared → Prop} {s : Shared}
theorem each_refs : ∀ (L : List (Addr × NestedKey)), PySem.W.EachIs (fun (v : Value) (p : Addr × NestedKey) => v = .ref p.1) (L.map fun p => Value.ref p.1) L
  | [] => .nil
  | p :: L => .cons rfl (each_refs L)
theorem each_out : ∀ {vs : List Value} {L : List (Addr × NestedKey)}, PySem.W.EachIs (fun (v : Value) (p : Addr × NestedKey) => v = .ref p.1) vs L → vs = L.map fun p => Value.ref p.1
  | _, _, .nil => rfl
  | _, _, .cons e t => by rw [e, each_out t]; rfl
/-- values that are the rows' addresses, the rows told -/
theorem rows_of {L : List (Addr × NestedKey)} : ∀ vs : List Value, (∀ v ∈ vs, ∃ q ∈ L, v = Value.ref q.1) → ∃ L1 : List (Addr × NestedKey), vs = L1.map (fun q => Value.ref q.1) ∧ ∀ q ∈ L1, q ∈ L
  | [], _ => ⟨[], rfl, fun q hq => by cases hq⟩
  | v :: vs, h => by
    obtain ⟨q, hq, e⟩ := h v List.mem_cons_self
    obtain ⟨L1, e1, hs⟩ := rows_of vs fun u hu => h u (List.mem_cons_of_mem _ hu)
    refine ⟨q :: L1, by rw [e, e1]; rfl, fun r hr => ?_⟩
    rcases List.mem_cons.mp hr with z | z
    · rw [z]; exact hq
    · exact hs r z
theorem sortedN {a : Addr} {L : List (Addr × NestedKey)} {es : Array (Int × Value)} {ep : Nat} {t : SetTable} {Q : Value → Shared → Prop} (G : SetN w s.heap a L es ep t) (hh : A.handled = none) (dt : Addr × NestedKey → PyData) (rd : ∀ p ∈ L, ∃ as, Reads s.heap (.ref p.1) (dt p) as)
    (hal : ∀ p ∈ L, ∀ q ∈ L, PySem.W.alike (dt p) (dt q) = true) (hs : ∀ p ∈ L, ∃ x r, dt p = .tuple (x :: r)) (hd : ∀ p ∈ L, (dt p).depth < 64) (hu : A.units + 100 < cLine)
    (q : ∀ s' p (out : Array Value) (c : Nat) (L' : List (Addr × NestedKey)), (∀ b o, s.heap.get? b = some o → s'.heap.get? b = some o) → s'.gens = s.gens → s'.os = s.os → s.heap.objs.size ≤ p → s'.heap.get? p = some (seqObj "list" out c) → out.toList = L'.map (fun q => Value.ref q.1) →
      (∀ r ∈ L', r ∈ L) → (L'.map (·.2)).Nodup → L'.length ≤ 4 → L'.Pairwise (fun x y => PySem.W.dataLt (dt y) (dt x) = false) → Q (.ref p) s') : wpAny (model P w) A (call (.builtin "sorted") [.ref a]) Q E s := by
  obtain ⟨o, gO, gE, gD⟩ := G.ob
  have few := G.few
  have gsz := G.size
  refine Calls.call_function_entry kind_sorted plain_sorted entry_sorted (args_sorted1 _) ?_
  unfold Builtin.«sorted»
  refine wpAny_bind (m := checkCount "sorted" 1 1 _) (wpAny_pure ?_)
  refine wpAny_bind (collect_set (A := A.in1) hh ⟨o, gO, gE.1, gD⟩ G.fits (by unfold scanBound; omega) G.tab.ris G.led fun s1 vs k1 hz g1 o1 pm => ?_)
  have hes : es.toList.map (·.2) = L.map fun q => Value.ref q.1 := by
    rw [G.rows]
    unfold rowsK
    rw [List.map_map]
    rfl
  rw [hes] at pm
  obtain ⟨L1, e1, s1L⟩ := rows_of (L := L) vs fun v hv => by
    obtain ⟨r, hr, e⟩ := List.mem_map.mp (pm.mem_iff.mp hv)
    exact ⟨r, hr, e.symm⟩
  -- an address is one row's
  have one : ∀ q ∈ L, ∀ r ∈ L, q.1 = r.1 → q = r := fun q hq r hr e => by
    have i1 := (G.key q hq).is
    have i2 := (G.key r hr).is
    rw [e] at i1
    exact Prod.ext e (NestedIs.inj _ _ _ i1 i2)
  have nL1 : (L1.map (·.2)).Nodup := by
    have nL : L.Nodup := nodup_of_map G.nd
    have nref : (L.map fun q => Value.ref q.1).Nodup := by
      refine List.pairwise_map.mpr (List.Pairwise.imp_of_mem (fun {q r} hq hr hne e => ?_) nL)
      injection e with e
      exact hne (one q hq r hr e)
    have n1 : L1.Nodup := nodup_of_map (f := fun q : Addr × NestedKey => Value.ref q.1) (by rw [← e1]; exact pm.nodup_iff.mpr nref)
    refine List.pairwise_map.mpr (List.Pairwise.imp_of_mem (fun {q r} hq hr hne e => ?_) n1)
    have nk := List.pairwise_map.mp G.nd
    refine hne ?_
    rcases Classical.em (q = r) with z | z
    · exact z
    · exfalso
      have sym : ∀ {l : List (Addr × NestedKey)}, l.Pairwise (fun a b => a.2 ≠ b.2) → ∀ q ∈ l, ∀ r ∈ l, q ≠ r → q.2 ≠ r.2 := fun {l} h => by
        induction l with
        | nil => intro q hq; cases hq
        | cons x l ih =>
          obtain ⟨h1, h2⟩ := List.pairwise_cons.mp h
          intro q hq r hr hne
          rcases List.mem_cons.mp hq with e1 | hq
          · rcases List.mem_cons.mp hr with e2 | hr
            · exact absurd (e1.trans e2.symm) hne
            · rw [e1]; exact h1 r hr
          · rcases List.mem_cons.mp hr with e2 | hr
            · rw [e2]; exact (h1 q hq).symm
            · exact ih h2 q hq r hr hne
      exact sym nk q (s1L q hq) r (s1L r hr) z e
  have len1 : L1.length ≤ 4 := by
    have e := pm.length_eq
    rw [e1, List.length_map, List.length_map] at e
    omega
  have vlen : vs.length = L1.length := by rw [e1, List.length_map]
  refine wpAny_bind (wpAny_newList ?_ (by rw [sizeLine_eq]; omega))
  have hoL : (s1.heap.push (seqObj "list" vs.toArray 0)).get? s1.heap.objs.size = some (seqObj "list" vs.toArray 0) := Heap.get?_push_size _ rfl
  have still : ∀ b u, s1.heap.get? b = some u → (PySem.W.sortingHeap (s1.heap.push (seqObj "list" vs.toArray 0)) s1.heap.objs.size vs).get? b = some u := fun b u e =>
    PySem.W.sortingHeap_old (Nat.ne_of_lt (Heap.lt_size e)) (Heap.get?_push_of_some _ e)
  have er : PySem.W.EachIs (fun v b => ∃ as, Reads (PySem.W.sortingHeap (s1.heap.push (seqObj "list" vs.toArray 0)) s1.heap.objs.size vs) v (dt b) as) vs L1 := by
    have key : ∀ l : List (Addr × NestedKey), (∀ q ∈ l, q ∈ L) → PySem.W.EachIs (fun v b => ∃ as, Reads (PySem.W.sortingHeap (s1.heap.push (seqObj "list" vs.toArray 0)) s1.heap.objs.size vs) v (dt b) as) (l.map fun q => Value.ref q.1) l := fun l => by
      induction l with
      | nil => intro _; exact .nil
      | cons p l ih =>
        intro hl
        obtain ⟨as, r⟩ := rd p (hl p List.mem_cons_self)
        exact .cons ⟨as, PyProof.Rows.Reads.keeps (fun b u e => still b u (k1 b u e)) r⟩ (ih fun q hq => hl q (List.mem_cons_of_mem _ hq))
    have z := key L1 s1L
    rwa [← e1] at z
  have ev : PySem.W.EachIs (fun (v : Value) (p : Addr × NestedKey) => v = .ref p.1) vs L1 := by
    have z := each_refs L1
    rwa [← e1] at z
  have al : PySem.W.AllAlike (L1.map dt) := fun d hd d' hd' => by
    obtain ⟨b, hb, rfl⟩ := List.mem_map.mp hd
    obtain ⟨b', hb', rfl⟩ := List.mem_map.mp hd'
    exact hal b (s1L b hb) b' (s1L b' hb')
  have so : PySem.W.Sortable (L1.map dt) := .inl fun d hd => by
    obtain ⟨b, hb, rfl⟩ := List.mem_map.mp hd
    exact hs b (s1L b hb)
  have out := PySem.W.sortVals_data (R := fun (v : Value) (p : Addr × NestedKey) => v = .ref p.1) false ev er al
  have SA := PySem.W.SortsAt.data (prog := P) (w := w) (A := A.in1.in1) (s := { s1 with heap := PySem.W.sortingHeap (s1.heap.push (seqObj "list" vs.toArray 0)) s1.heap.objs.size vs }) (PySem.W.each_map (R := fun v d => ∃ as, Reads (PySem.W.sortingHeap (s1.heap.push (seqObj "list" vs.toArray 0)) s1.heap.objs.size vs) v d as) dt er) al so (fun d hd' => by
    obtain ⟨b, hb, rfl⟩ := List.mem_map.mp hd'
    have := hd b (s1L b hb)
    show A.units + 1 + 1 + _ < cLine
    omega)
  refine wpAny_bind (wpAny_holding (wpAny_call_entry (s := { s1 with heap := s1.heap.push (seqObj "list" vs.toArray 0) }) slot_list_sort ⟨_, hoL, rfl⟩ entry_list_sort (PySem.W.list_sort_vals hoL SA (by rw [sizeLine_eq]; omega) ⟨.none, rfl, ?_⟩) (args_list_sort _)))
  obtain ⟨c, hc⟩ := sortedHeap_at (vs := vs) (out := (PySem.W.sortVals (PySem.W.dataKind (PySem.W.sortingHeap (s1.heap.push (seqObj "list" vs.toArray 0)) s1.heap.objs.size vs) (L1.map dt)) false vs vs).toArray) hoL
  have pmL : (L1.mergeSort (PySem.W.dataLe false dt)).Perm L1 := List.mergeSort_perm ..
  have pw := PySem.W.sort_pairwise (PySem.W.sortLe_total (listOrd itemOrd) false fun b => PySem.W.keyToks (dt b)) L1
  refine wpAny_pure ⟨_, rfl, q _ s1.heap.objs.size _ c (L1.mergeSort (PySem.W.dataLe false dt)) (fun b u e => ?_) g1 o1 hz hc (each_out out) (fun r hr => s1L r (pmL.mem_iff.mp hr)) ((pmL.map (·.2)).nodup_iff.mpr nL1) (by rw [pmL.length_eq]; exact len1) (List.Pairwise.imp (fun {x y} h => ?_) pw)⟩
  · have e' := k1 b u e
    have hlt := Heap.lt_size e'
    show (sortedHeap (s1.heap.push (seqObj "list" vs.toArray 0)) s1.heap.objs.size vs _).get? b = some u
    rw [sortedHeap_old (Nat.ne_of_lt hlt) (by rw [size_push']; exact Nat.lt_succ_of_lt hlt)]
    exact Heap.get?_push_of_some _ e'
  · have h' : (!PySem.W.dataLt (dt y) (dt x)) = true := h
    rwa [Bool.not_eq_true'] at h'
end
end Ns
/-! ## Sd -/
set_option Elab.async false
set_option linter.all false
set_option maxRecDepth 100000
set_option maxHeartbeats 4000000
/-! set(xs), sorted(set) as rules -/
namespace Ns
open PySem PySem.Spec PyProof.Rows L2
mutual
theorem nested_of_reads {h : Heap} : ∀ (k : NestedKey) (v : Value) (as : List Addr), NumK k → Reads h v k.data as → NestedIs h k v
  | .none, _, _, n, _ => nomatch n
  | .text _, _, _, n, _ => nomatch n
  | .num i, _, _, _, r => by
    have r' : Reads h _ (.int i) _ := r
    cases r' with
    | int _ t => exact .int _ t
  | .tup ks, _, _, n, r => by
    have r' : Reads h _ (.tuple (NestedKey.datas ks)) _ := r
    cases r' with
    | tuple h1 h2 h3 h4 => exact .tup h1 h2 h3 (nested_of_readsAll ks _ _ (by cases n with | tup _ h => exact h) h4)
theorem nested_of_readsAll {h : Heap} : ∀ (ks : List NestedKey) (vs : List Value) (as : List Addr), (∀ k ∈ ks, NumK k) → ReadsAll h vs (NestedKey.datas ks) as → NestedAll h ks vs
  | [], _, _, _, r => by
    have r' : ReadsAll h _ [] _ := r
    cases r'
    exact .nil
  | k :: ks, _, _, n, r => by
    have r' : ReadsAll h _ (k.data :: NestedKey.datas ks) _ := r
    cases r' with
    | cons h1 h2 => exact .cons (nested_of_reads k _ _ (n k List.mem_cons_self) h1) (nested_of_readsAll ks _ _ (fun z hz => n z (List.mem_cons_of_mem _ hz)) h2)
end
/-- the set at a, its members aside -/
def SetN0 (w : World) (h : Heap) (a : Addr) (L : List (Addr × NestedKey)) : Prop :=
  ∃ (es : Array (Int × Value)) (ep : Nat) (t : SetTable), (∃ o, h.get? a = some o ∧ o.ExactSet ∧ o.data = .set es ep t) ∧ es.toList = rowsK w L ∧ TabOk t (hsK w L) ∧ (L.map (·.2)).Nodup ∧ t.plain = true ∧ (w.params.followText "set-order" = true ∨ t.led = true) ∧ t.mask = 7 ∧ L.length ≤ 4
def SetNO (w : World) (a : Addr) (L : List (Addr × NestedKey)) : HO := .ext fun h => SetN0 w h a L
theorem SetN.out {w : World} {h : Heap} {a : Addr} {L : List (Addr × NestedKey)} {es : Array (Int × Value)} {ep : Nat} {t : SetTable} (G : SetN w h a L es ep t) : SetN0 w h a L := ⟨es, ep, t, G.ob, G.rows, G.tab, G.nd, G.plain, G.led, G.mask, G.few⟩
theorem setNO_ok {P : Program} {w : World} {H : Hp} {h : Heap} {a : Addr} {L : List (Addr × NestedKey)} (G : SetN0 w h a L) : ObjOk P w H h a (SetNO w a L) := by
  refine ⟨G, ?_, fun h1 h2 p k => ?_⟩
  · obtain ⟨_, _, _, ⟨o, ho, _⟩, _⟩ := G
    exact ⟨o, ho⟩
  · have p' : SetN0 w h1 a L := p
    obtain ⟨es, ep, t, ⟨o, ho, r⟩, q⟩ := p'
    exact ⟨es, ep, t, ⟨o, k o ho, r⟩, q⟩
/-- p's object is its key -/
def IsK (K : PySem.W.Frag) (H : Hp) (p : Addr × NestedKey) : Prop := Dp K H (.ref p.1) p.2.data ∧ NumK p.2 ∧ p.2.depth ≤ 8
section
variable {X : Cx}
theorem refs_of : ∀ {ks : List (Addr × NestedKey)} {us : List Value}, Vals (ks.map fun p => V.ref p.1) us → us = ks.map fun p => Value.ref p.1
  | [], _, .nil => rfl
  | p :: ks, _, .cons r t => by
    cases r
    rw [refs_of t]
    rfl
theorem vals_of : ∀ ks : List (Addr × NestedKey), Vals (ks.map fun p => V.ref p.1) (ks.map fun p => Value.ref p.1)
  | [] => .nil
  | _ :: ks => .cons rfl (vals_of ks)
theorem IsK.kt {pins : List (Addr × Obj)} {σ : L2.St} {H : Hp} {s : Shared} {p : Addr × NestedKey} (I : Inv X pins σ H s) (h : IsK X.K H p) : Kt s.heap p.2 p.1 := by
  obtain ⟨as, r⟩ := Dp.reads I _ _ (.ref p.1) h.1 rfl
  exact ⟨nested_of_reads _ _ _ h.2.1 r, h.2.2, h.2.1⟩
def rSetN (K : PySem.W.Frag) (w : World) : List V → Hp → VK → Prop := fun xs H Q => ∃ (l : Addr) (ks : List (Addr × NestedKey)), xs = [V.ref l] ∧ SqL K H l (ks.map fun p => V.ref p.1) ∧ (∀ p ∈ ks, IsK K H p) ∧ ks.length ≤ 4 ∧
  ∀ a L, H a = none → (∀ p ∈ L, p ∈ ks) → Q (.ref a) (upd H a (SetNO w a L))
theorem cr_setN (hc : X.calm = true) (hu : X.A.units + 64 < cLine) : CallR X (.type "set") (rSetN X.K X.w) := by
  intro pins s σ H xs us Q I r h
  obtain ⟨l, ks, rfl, hl, hk, few, q⟩ := h
  rw [Vals.ref1 r]
  obtain ⟨its, rv, pl, hz⟩ := I.list hl
  refine call_setN (P := X.prog) (w := X.w) ks (I.ok.hd hc) pl.isList (by simpa using refs_of rv) (fun p hp => (hk p hp).kt I) few (by omega) fun h' tk L es ep t G got k => ?_
  exact ⟨.ref s.heap.objs.size, upd H s.heap.objs.size (SetNO X.w s.heap.objs.size L), I.laid (t' := tk) k (Nat.le_refl _) (setNO_ok G.out), rfl, q _ L (I.hok.fresh (Nat.le_refl _)) got.sub⟩
def rSortN (K : PySem.W.Frag) (w : World) : List V → Hp → VK → Prop := fun vs H Q => ∃ (a : Addr) (L : List (Addr × NestedKey)), vs = [V.ref a] ∧ H a = some (SetNO w a L) ∧ (∀ p ∈ L, IsK K H p) ∧ (∀ p ∈ L, ∀ q ∈ L, PySem.W.alike p.2.data q.2.data = true) ∧
  (∀ p ∈ L, ∃ x r, p.2.data = .tuple (x :: r)) ∧ (∀ p ∈ L, p.2.data.depth < 64) ∧
  ∀ (L' : List (Addr × NestedKey)) (p : Addr), (∀ r ∈ L', r ∈ L) → (L'.map (·.2)).Nodup → L'.length ≤ 4 → L'.Pairwise (fun x y => PySem.W.dataLt y.2.data x.2.data = false) → H p = none → Q (.ref p) (upd H p (.lst (L'.map fun q => V.ref q.1)))
theorem cr_sortN (hc : X.calm = true) (hu : X.A.units + 100 < cLine) : CallR X (.builtin "sorted") (rSortN X.K X.w) := by
  intro pins s σ H vs us Q I r h
  obtain ⟨a, L, rfl, ha, hk, hal, hs, hd, q⟩ := h
  have G0 : SetN0 X.w s.heap a L := (I.hok a _ ha).1
  obtain ⟨es, ep, t, g1, g2, g3, g4, g5, g6, g7, g8⟩ := G0
  have G : SetN X.w s.heap a L es ep t := ⟨g1, g2, g3, g4, fun p hp => (hk p hp).kt I, g5, g6, g7, g8⟩
  rw [Vals.ref1 r]
  refine sortedN G (I.ok.hd hc) (fun p => p.2.data) (fun p hp => Dp.reads I _ _ (.ref p.1) (hk p hp).1 rfl) hal hs hd hu fun s' p out c L' k gg oo hp hg hout m1 m2 m3 m4 => ?_
  have len : (L'.map fun q => V.ref q.1).length ≤ sizeLine := by rw [List.length_map, sizeLine_eq]; omega
  have hn : H p = none := I.hok.fresh hp
  have J : Inv X pins σ (upd H p (.lst (L'.map fun q => V.ref q.1))) { s with heap := s'.heap, gens := s'.gens, drawn := s'.drawn, toks := s'.toks } :=
    I.call (ch := []) (Un.laid k hp hn) (I.hok.laid k hp ⟨len, out.toList, c, by rw [hout]; exact vals_of L', hg⟩) (by rw [gg]; exact I.bare) (fun _ z => nomatch z)
  have e : s' = { s with heap := s'.heap, gens := s'.gens, drawn := s'.drawn, toks := s'.toks } := by
    cases s'
    cases s
    cases oo
    rfl
  rw [e]
  exact ⟨.ref p, _, J, rfl, q L' p m1 m2 m3 m4 hn⟩
end
/-! ### the rows of rules -/
theorem toksAll_ints (l m : List (Int ⊕ List Nat)) : ∀ xs ys : List Int, PySem.W.keyToksAll (xs.map PyData.int) ++ l = PySem.W.keyToksAll (ys.map PyData.int) ++ m → xs = ys ∧ l = m
  | [], [], h => by
    simp only [List.map_nil, PySem.W.keyToksAll, List.cons_append, List.nil_append, List.cons.injEq] at h
    exact ⟨rfl, h.2⟩
  | [], y :: ys, h => by
    simp [PySem.W.keyToksAll] at h
  | x :: xs, [], h => by
    simp [PySem.W.keyToksAll] at h
  | x :: xs, y :: ys, h => by
    simp only [List.map_cons, PySem.W.keyToksAll, PySem.W.keyToks, List.cons_append, List.nil_append, List.cons.injEq, Sum.inl.injEq] at h
    obtain ⟨_, h1, h2⟩ := h
    obtain ⟨e1, e2⟩ := toksAll_ints l m xs ys h2
    exact ⟨by rw [h1, e1], e2⟩
/-- a rule as data and as key -/
def rulD (r : Int × List Int × List Int) : PyData := .tuple [.int r.1, .tuple (r.2.1.map .int), .tuple (r.2.2.map .int)]
def rulK (r : Int × List Int × List Int) : NestedKey := .tup [.num r.1, .tup (r.2.1.map .num), .tup (r.2.2.map .num)]
theorem datas_ints : ∀ xs : List Int, NestedKey.datas (xs.map .num) = xs.map .int
  | [] => rfl
  | x :: xs => by rw [List.map_cons, NestedKey.datas, datas_ints xs]; rfl
theorem rulK_data (r : Int × List Int × List Int) : (rulK r).data = rulD r := by
  show PyData.tuple (NestedKey.datas [.num r.1, .tup (r.2.1.map .num), .tup (r.2.2.map .num)]) = _
  simp only [NestedKey.datas, NestedKey.data, datas_ints]
  rfl
theorem rulK_num (r : Int × List Int × List Int) : NumK (rulK r) := by
  refine .tup _ fun k hk => ?_
  rcases List.mem_cons.mp hk with e | hk
  · rw [e]; exact .num _
  rcases List.mem_cons.mp hk with e | hk
  · rw [e]
    refine .tup _ fun z hz => ?_
    obtain ⟨i, _, rfl⟩ := List.mem_map.mp hz
    exact .num i
  · rw [List.mem_singleton.mp hk]
    refine .tup _ fun z hz => ?_
    obtain ⟨i, _, rfl⟩ := List.mem_map.mp hz
    exact .num i
theorem depth_nums : ∀ xs : List Int, NestedKey.depthAll (xs.map .num) = 0
  | [] => rfl
  | x :: xs => by rw [List.map_cons, NestedKey.depthAll, depth_nums xs]; rfl
theorem rulK_depth (r : Int × List Int × List Int) : (rulK r).depth = 2 := by
  simp only [rulK, NestedKey.depth, NestedKey.depthAll, depth_nums]
  rfl
theorem rulD_inj {r q : Int × List Int × List Int} (h : PySem.W.keyToks (rulD r) = PySem.W.keyToks (rulD q)) : r = q := by
  obtain ⟨a, b, c⟩ := r
  obtain ⟨a', b', c'⟩ := q
  simp only [rulD, PySem.W.keyToks, PySem.W.keyToksAll, List.cons_append, List.nil_append, List.cons.injEq, Sum.inl.injEq, true_and] at h
  obtain ⟨h1, h2⟩ := h
  obtain ⟨e1, h3⟩ := toksAll_ints _ _ _ _ h2
  simp only [List.cons.injEq, true_and] at h3
  obtain ⟨e2, _⟩ := toksAll_ints _ _ _ _ h3
  rw [h1, e1, e2]
/-- no two the same, none less than one ahead: each less than the next -/
theorem lt_of_le {r q : Int × List Int × List Int} (h : PySem.W.dataLt (rulD q) (rulD r) = false) (ne : r ≠ q) : PySem.W.dataLt (rulD r) (rulD q) = true := by
  cases e : PySem.W.dataLt (rulD r) (rulD q) with
  | true => rfl
  | false => exact absurd (rulD_inj ((listOrd itemOrd).total _ _ e h)) ne
end Ns
/-! ## Ka -/
set_option Elab.async false
set_option linter.all false
set_option maxRecDepth 100000
set_option maxHeartbeats 4000000
namespace K74
open PySem PySem.Spec PyProof.Rows L2 He Kx Gx

/-! ### what is known of the text behind the top -/
structure Wd (K : PySem.W.Frag) (mg : Str → Option Value) (base : Heap) : Prop where
  fa : ∀ (i : Nat) (f : Fa), faL[i]? = some f → f.ok K = true
  fn : ∀ (i : Nat) (d : DefD), fnL[i]? = some d → ∃ fd, FunD K d.name d.qual d.params d.body d.scope (d.dvs K) (d.kws K) (fAd K d.at_) fd
  tb : ∀ p ∈ tfL, GxR.TabB base mg (cT K p).1 (cT K p).2
  kin : K.In base
  ns : base.Ns mainGlobals mg
  ex : exB K = true
abbrev FD (K : PySem.W.Frag) (x q : Str) (st : Stmt) (p : Defn) : Prop := ∃ fd, FunD K x q (defArgs st) (defBody st) (defScope st) [] [] (fAd K p) fd
/-- the def's object -/
def FdAt (K : PySem.W.Frag) (p : Defn) (fd : FuncData) : Prop := ∃ oc od osl, K.lookup (fAd K p) = some ⟨oc, od, .func fd, osl⟩
/-- a def that keeps a promise -/
def FnP (P : Program) (w : World) (K : PySem.W.Frag) (mg : Str → Option Value) (base : Heap) (CX : CXT) (k : Nat) (p : Defn) (ps : List Str) (sp : Sp) : Prop :=
  ∃ fd, FnOk P w K mg base CX k (fAd K p) fd ps sp ∧ Binds K fd ps [] ∧ (PySem.W.keepIn K (.ref (fAd K p)) = true ∧ FdAt K p fd)
section
variable {P : Program} {w : World} {K : PySem.W.Frag} {mg : Str → Option Value} {base : Heap}
theorem Wd.glo (W : Wd K mg base) (i : Nat) {x : Str} (h : faL[i]? = some (.glo x) := by rfl) : mg x = some (.ref (ga K x)) := glo_ok W.kin W.ns (W.fa i _ h)
theorem Wd.free (W : Wd K mg base) (i : Nat) {x : Str} (h : faL[i]? = some (.free x) := by rfl) : mg x = none := free_ok W.kin W.ns (W.fa i _ h)
/-- a def's body, its code object told -/
theorem fnP_of {CX : CXT} {x q : Str} {st : Stmt} {p : Defn} {N ps : List Str} {k : Nat} {sp : Sp} (F0 : FD K x q st p) (S : FnScope N ps (defScope st))
    (hb : ∀ (kV doc pm : Value) (an : Option Addr) (cdv ct : Value) (us : List Value), us.length = ps.length → bindArgs (PySem.W.fnOf x q (defArgs st) (defBody st) (defScope st) .none kV doc pm an cdv ct) ⟨us, []⟩ = pure (ps.zip us))
    (len : ∀ vs H Q E, sp vs H Q E → vs.length = ps.length)
    (hbody : ∀ (A : Around) (outer : List Env) (s : Shared) (H : Hp) (vs : List V) (Q : VK) (E : XK), Room k (A.deeper (envOfC q (defScope st) s.heap.objs.size (fAd K p) (.ref (codeOf K p)))) → sp vs H Q E →
      ∃ t, PSs (cxOf CX P w K mg base N q (defScope st) (fAd K p) (.ref (codeOf K p)) A outer s H E) (defBody st) t ∧ t { nx := fun _ H' => Q .non H', rt := Q } (start N vs) H) :
    FnP P w K mg base CX (k + 1) p ps sp := by
  obtain ⟨fd, F⟩ := F0
  have B := F.bindsN hb
  have kp := F.kp
  obtain ⟨oc, od, dV, kV, doc, pm, an, cdv, ct, osl, rfl, lk, hcd, _, _⟩ := F.ex
  obtain ⟨c, rfl⟩ := codeIn_ref hcd
  have ec : codeOf K p = c := codeOf_eq lk rfl
  refine ⟨_, fn_of lk hcd S len fun A outer s H vs Q E hr hsp => ?_, B, kp, _, _, _, lk⟩
  have := hbody A outer s H vs Q E
  rw [ec] at this
  exact this hr hsp
/-- f(e, ..) -/
theorem pe_callP {X : Cx} {CX : CXT} {x : Str} {ps : List Str} {k : Nat} {sp : Sp} {E : XK} {e : Expr} {es : List Expr} {t : TA} {p pos : Pos} (G : FnP X.prog X.w X.K X.mg X.base CX k (x, none) ps sp) (hr : Room k X.A) (hm : X.mg x = some (.ref (ga X.K x))) (hx : Passes CX X E) (ha : PA X (e :: es) t)
    (hg : Gl X x := by rfl) (hdb : (x == ("__debug__" : Str)) = false := by decide) (he : starEach (e :: es) X.env = (false, eval e X.env) :: starEach es X.env := by rfl) (hpl : (backTo pos (starEach es X.env)).any (·.1) = false := by rfl) :
    PE X (.Call (.Name x p) (e :: es) [] pos) (tCall sp [] E t) := by
  obtain ⟨fd, G, b, kp⟩ := G
  exact pe_call G hr hg hm kp.1 b .nil hx ha (hdb := hdb) (he := he) (hpl := hpl)

/-! ### is_integer -/
def spIsInt (K : PySem.W.Frag) : Sp := fun vs H Q _ => ∃ v d, vs = [v] ∧ Dp K H v d ∧ Q (.bl (isIntD d)) H
theorem sc_is_integer : FnScope ["value"] ["value"] (defScope s_is_integer) := ⟨rfl, rfl, rfl, by decide +kernel, rfl, by decide +kernel, by decide +kernel⟩
theorem ok_is_integer (W : Wd K mg base) : FnP P w K mg base CX0 1 ("is_integer", none) ["value"] (spIsInt K) := by
  refine fnP_of (W.fn 1 _ rfl) sc_is_integer (fun _ _ _ _ _ _ us hl => match us, hl with | [_], _ => rfl) (fun vs H Q E h => ?_) (fun A outer s H vs Q E hr h => ?_)
  · obtain ⟨v, d, rfl, _⟩ := h
    rfl
  · obtain ⟨v, d, rfl, hd, q⟩ := h
    have nI : mg "isinstance" = none := W.free 39
    have nInt : mg "int" = none := W.free 40
    have nBool : mg "bool" = none := W.free 41
    refine ⟨_, PSs.nox (pss_one (ps_ret (pe_and (pe_callB call_isD (by rfl) nI (by decide +kernel) (pa_cons (pv 0) (pa_cons (pe_bltn (v := .ty "int") (by rfl) nInt (by decide +kernel) rfl) pa_nil)))
      (pe_one (pe_not (pe_callB call_isD (by rfl) nI (by decide +kernel) (pa_cons (pv 0) (pa_cons (pe_bltn (v := .ty "bool") (by rfl) nBool (by decide +kernel) rfl) pa_nil)))))))), ?_⟩
    refine ⟨_, rfl, v, "int", d, _, rfl, hd, kit_int d, _, rfl, ?_⟩
    cases d with
    | int i => exact ⟨_, rfl, v, "bool", _, _, rfl, hd, kit_bool _, _, rfl, q⟩
    | bool b => exact ⟨_, rfl, v, "bool", _, _, rfl, hd, kit_bool _, _, rfl, q⟩
    | _ => exact q
end
end K74
/-! ## Kb -/
set_option Elab.async false
set_option linter.all false
set_option maxRecDepth 100000
set_option maxHeartbeats 4000000
namespace K74
open PySem PySem.Spec PyProof.Rows L2 He Kx Gx GxR
/-! ### what the checks compute -/
def betD (d : PyData) (lo hi : Int) : Bool := match d with
  | .int i => decide (lo ≤ i) && decide (i ≤ hi)
  | _ => false
def intsD (d : PyData) (m : Int) : Bool := match d with
  | .tuple ds => decide ((ds.length : Int) = m) && ds.all isIntD
  | _ => false
def natD (d : PyData) : Bool := match d with
  | .int i => decide (0 ≤ i)
  | _ => false
def natsD (d : PyData) (m : Int) : Bool := match d with
  | .tuple ds => decide ((ds.length : Int) = m) && ds.all natD
  | _ => false
/-- the tables of code are at hand -/
def Tbs (K : PySem.W.Frag) (H : Hp) : Prop := ∀ p ∈ tfL, TabG H (cT K p).2
theorem Tbs.gr {K : PySem.W.Frag} {H H' : Hp} (t : Tbs K H) (g : Gr H H') : Tbs K H' := fun p hp => g.tab _ (t p hp)
theorem Room.depth {k : Nat} {A : Around} (r : Room k A) : A.depth < recursionLimit := by have := r.dp; omega
theorem lenT {K : PySem.W.Frag} {H : Hp} {v : V} {ds : List PyData} (h : Dp K H v (.tuple ds)) : ∃ p xs, v = .ref p ∧ SqT K H p xs ∧ DpAll K H xs ds := by
  cases h with
  | tup h a => exact ⟨_, _, rfl, h, a⟩
/-! ### all, any over a tuple of data -/
theorem range_all (pr : PyData → Bool) (ds : List PyData) : ((List.range ds.length).all fun i => pr (ds.getD i .none)) = ds.all pr := by
  rw [Bool.eq_iff_iff, List.all_eq_true, List.all_eq_true]
  constructor
  · intro h x hx
    obtain ⟨i, hi, rfl⟩ := List.mem_iff_getElem.mp hx
    have := h i (List.mem_range.mpr hi)
    rwa [List.getD_eq_getElem?_getD, List.getElem?_eq_getElem hi] at this
  · intro h i hi
    have hi := List.mem_range.mp hi
    rw [List.getD_eq_getElem?_getD, List.getElem?_eq_getElem hi]
    exact h _ (List.getElem_mem hi)
theorem range_any (pr : PyData → Bool) (ds : List PyData) : ((List.range ds.length).any fun i => pr (ds.getD i .none)) = ds.any pr := by
  rw [Bool.eq_iff_iff, List.any_eq_true, List.any_eq_true]
  constructor
  · rintro ⟨i, hi, h⟩
    have hi := List.mem_range.mp hi
    rw [List.getD_eq_getElem?_getD, List.getElem?_eq_getElem hi] at h
    exact ⟨_, List.getElem_mem hi, h⟩
  · rintro ⟨x, hx, h⟩
    obtain ⟨i, hi, rfl⟩ := List.mem_iff_getElem.mp hx
    refine ⟨i, List.mem_range.mpr hi, ?_⟩
    rw [List.getD_eq_getElem?_getD, List.getElem?_eq_getElem hi]
    exact h
theorem foldB_list (z : Bool) (pr : PyData → Bool) (ds : List PyData) : foldB z ds.length (fun i => pr (ds.getD i .none)) = if z then ds.all pr else ds.any pr := by
  unfold foldB
  rw [range_all, range_any]
theorem gx_tupD {K : PySem.W.Frag} {P : Addr} {j : Nat} {te : TE} {vs : List Nat} {σ : L2.St} {H : Hp} {Q : VK} {z : Bool} {tl : TE} (pr : PyData → Bool) (hw : ∀ x, wipe ((wipe σ vs).set j (some x)) vs = wipe σ vs)
    (hl : tl σ H fun x H1 => ∃ ds, Dp K H1 x (.tuple ds) ∧ TabG H1 P ∧ (∀ x d H2, d ∈ ds → Gr H1 H2 → Dp K H2 x d → ∀ Qe : VK, (∀ H3, Gr H2 H3 → Qe (.bl (pr d)) H3) → te ((wipe σ vs).set j (some x)) H2 Qe) ∧ ∀ H', Gr H1 H' → Q (.bl (if z then ds.all pr else ds.any pr)) H')
    (mono : ∀ {Q Q' : VK} {H}, (∀ v H', Q v H' → Q' v H') → tl σ H Q → tl σ H Q') : tGx P z (iTup K tl) (gName j) tYes te vs σ H Q := by
  refine gx_tup (K := K) hw (mono (fun v H1 h => ?_) hl) mono
  obtain ⟨ds, hd, ht, he, hQ⟩ := h
  obtain ⟨p, xs, rfl, hs, ha⟩ := lenT hd
  have hlen := DpAll.length ha
  refine ⟨p, xs, fun i => pr (ds.getD i .none), rfl, hs, ht, fun i x H2 hx g Qe qe => ?_, fun H' g => ?_⟩
  · obtain ⟨d, e1, e2⟩ := DpAll.get ha hx
    refine he x d H2 (List.mem_of_getElem? e1) g (g.dp e2) Qe fun H3 g3 => ?_
    have := qe H3 g3
    simp only [List.getD_eq_getElem?_getD, e1, Option.getD_some] at this
    exact this
  · rw [hlen, foldB_list]
    exact hQ H' g
theorem mono_var {i : Nat} {σ : L2.St} : ∀ {Q Q' : VK} {H : Hp}, (∀ v H', Q v H' → Q' v H') → tVar i σ H Q → tVar i σ H Q' := fun hQ h => h.imp fun _ h => ⟨h.1, hQ _ _ h.2⟩
section
variable {P : Program} {w : World} {K : PySem.W.Frag} {mg : Str → Option Value} {base : Heap}
theorem Wd.nIsi (W : Wd K mg base) : mg "isinstance" = none := W.free 39
theorem Wd.nInt (W : Wd K mg base) : mg "int" = none := W.free 40
theorem Wd.nBool (W : Wd K mg base) : mg "bool" = none := W.free 41
theorem Wd.nTup (W : Wd K mg base) : mg "tuple" = none := W.free 42
theorem Wd.nStr (W : Wd K mg base) : mg "str" = none := W.free 43
theorem Wd.nAll (W : Wd K mg base) : mg "all" = none := W.free 44
theorem Wd.nRange (W : Wd K mg base) : mg "range" = none := W.free 45
theorem Wd.nLen (W : Wd K mg base) : mg "len" = none := W.free 38
/-! ### is_between -/
def spBet (K : PySem.W.Frag) : Sp := fun vs H Q _ => ∃ v d lo hi, vs = [v, .int lo, .int hi] ∧ Dp K H v d ∧ Q (.bl (betD d lo hi)) H
theorem sc_is_between : FnScope ["value", "low", "high"] ["value", "low", "high"] (defScope s_is_between) := ⟨rfl, rfl, rfl, by decide +kernel, rfl, by decide +kernel, by decide +kernel⟩
theorem ok_is_between (W : Wd K mg base) : FnP P w K mg base CX0 2 ("is_between", none) ["value", "low", "high"] (spBet K) := by
  refine fnP_of (W.fn 2 _ rfl) sc_is_between (fun _ _ _ _ _ _ us hl => match us, hl with | [_, _, _], _ => rfl) (fun vs H Q E h => ?_) (fun A outer s H vs Q E hr h => ?_)
  · obtain ⟨v, d, lo, hi, rfl, _⟩ := h
    rfl
  · obtain ⟨v, d, lo, hi, rfl, hd, q⟩ := h
    refine ⟨_, PSs.nox (pss_one (ps_ret (pe_and (pe_callP (ok_is_integer W) hr (W.glo 0) pass0 (pa_cons (pv 0) pa_nil)) (pe_one (pe_chain op_le op_le (pv 1) (pv 0) (pv 2)))))), ?_⟩
    refine ⟨v, rfl, v, d, rfl, hd, _, rfl, ?_⟩
    cases d with
    | int i =>
      cases hd
      refine ⟨_, rfl, _, rfl, lo, i, rfl, rfl, _, rfl, ?_⟩
      cases e : decide (lo ≤ i) with
      | true =>
        refine ⟨_, rfl, i, hi, rfl, rfl, ?_⟩
        have q2 : Q (.bl (decide (lo ≤ i) && decide (i ≤ hi))) H := q
        rw [e] at q2
        exact q2
      | false =>
        have q2 : Q (.bl (decide (lo ≤ i) && decide (i ≤ hi))) H := q
        rw [e] at q2
        exact q2
    | _ => exact q
/-! ### are_integers -/
def spInts (K : PySem.W.Frag) : Sp := fun vs H Q _ => ∃ v d m, vs = [v, .int m] ∧ Dp K H v d ∧ Tbs K H ∧ ∀ H', Gr H H' → Q (.bl (intsD d m)) H'
theorem sc_are_integers : FnScope ["value", "size", "one"] ["value", "size"] (defScope s_are_integers) := ⟨rfl, rfl, rfl, by decide +kernel, rfl, by decide +kernel, by decide +kernel⟩
theorem ok_are_integers (W : Wd K mg base) : FnP P w K mg base CX0 7 ("are_integers", none) ["value", "size"] (spInts K) := by
  refine fnP_of (W.fn 3 _ rfl) sc_are_integers (fun _ _ _ _ _ _ us hl => match us, hl with | [_, _], _ => rfl) (fun vs H Q E h => ?_) (fun A outer s H vs Q E hr h => ?_)
  · obtain ⟨v, d, m, rfl, _⟩ := h
    rfl
  · obtain ⟨v, d, m, rfl, hd, ht, q⟩ := h
    have TB := W.tb ("are_integers", none) (by simp [tfL])
    refine ⟨_, PSs.nox (pss_one (ps_ret (pe_and (pe_callB call_isD (by rfl) W.nIsi (by decide +kernel) (pa_cons (pv 0) (pa_cons (pe_bltn (v := .ty "tuple") (by rfl) W.nTup (by decide +kernel) rfl) pa_nil)))
      (pe_and (pe_cmpR op_eq (pe_callB call_len (by rfl) W.nLen (by decide +kernel) (pa_cons (pv 0) pa_nil)) (pv 1) (nomark _))
      (pe_one (pe_allG (own := [("one", 2)]) (by rfl) W.nAll hr.hd (Room.depth hr) TB rfl sc_are_integers.nd (blkOk_by (by kernel_rfl)) (pi_tup (pv 0)) (fun s H C cl code fp pn => pg_name (i := 2) sc_are_integers.nd rfl (.inl rfl)) (fun s H C cl code fp pn => pts_nil)
        (fun s H C cl code fp pn => pe_callP (k := 1) (ok_is_integer W) (room_gx (hr.mono (by omega)) _) (W.glo 0) pass0 (pa_cons (pv 2) pa_nil)))))))), ?_⟩
    refine ⟨v, rfl, v, "tuple", d, _, rfl, hd, kit_tup d, _, rfl, ?_⟩
    cases d with
    | tuple ds =>
      obtain ⟨p, xs, rfl, hs, ha⟩ := lenT hd
      have hl := DpAll.length ha
      refine ⟨.ref p, rfl, .ref p, xs.length, rfl, .inr ⟨xs, hs, rfl⟩, .int m, rfl, rfl, _, rfl, ?_⟩
      rw [dec_int]
      have q2 : ∀ H', Gr H H' → Q (.bl (decide ((ds.length : Int) = m) && ds.all isIntD)) H' := q
      by_cases e : (xs.length : Int) = m
      · rw [beq_iff_eq.mpr e, if_pos rfl]
        rw [← hl, decide_eq_true e] at q2
        refine gx_tupD isIntD (fun x => rfl) ?_ mono_var
        refine ⟨.ref p, rfl, ds, hd, ht _ (by simp [tfL]), fun x d H2 _ g hx Qe qe => ?_, q2⟩
        exact ⟨x, rfl, x, d, rfl, hx, qe _ (.refl _)⟩
      · rw [beq_eq_false_iff_ne.mpr e, if_neg Bool.false_ne_true]
        rw [← hl, decide_eq_false e] at q2
        exact q2 _ (.refl _)
    | _ => exact q _ (.refl _)
end
end K74
/-! ## Kc -/
set_option Elab.async false
set_option linter.all false
set_option maxRecDepth 100000
set_option maxHeartbeats 4000000
namespace K74
open PySem PySem.Spec PyProof.Rows L2 He Kx Gx GxR
section
variable {P : Program} {w : World} {K : PySem.W.Frag} {mg : Str → Option Value} {base : Heap}
/-! ### are_naturals -/
theorem natD_int {d : PyData} (h : natD d = true) : isIntD d = true := by
  cases d <;> first | rfl | cases h
theorem natsD_eq (d : PyData) (m : Int) : natsD d m = (intsD d m && (match d with | .tuple ds => ds.all natD | _ => false)) := by
  cases d with
  | tuple ds =>
    show (decide ((ds.length : Int) = m) && ds.all natD) = ((decide ((ds.length : Int) = m) && ds.all isIntD) && ds.all natD)
    cases e : ds.all natD with
    | false => simp
    | true =>
      have : ds.all isIntD = true := List.all_eq_true.mpr fun x hx => natD_int (List.all_eq_true.mp e x hx)
      rw [this]
      simp
  | _ => rfl
theorem intsD_tuple {d : PyData} {m : Int} (h : intsD d m = true) : ∃ ds, d = .tuple ds ∧ (ds.length : Int) = m ∧ ∀ x ∈ ds, isIntD x = true := by
  cases d with
  | tuple ds =>
    have h2 : (decide ((ds.length : Int) = m) && ds.all isIntD) = true := h
    rw [Bool.and_eq_true] at h2
    exact ⟨ds, rfl, of_decide_eq_true h2.1, fun x hx => List.all_eq_true.mp h2.2 x hx⟩
  | _ => cases h
def spNats (K : PySem.W.Frag) : Sp := fun vs H Q _ => ∃ v d m, vs = [v, .int m] ∧ Dp K H v d ∧ Tbs K H ∧ ∀ H', Gr H H' → Q (.bl (natsD d m)) H'
theorem sc_are_naturals : FnScope ["value", "size", "one"] ["value", "size"] (defScope s_are_naturals) := ⟨rfl, rfl, rfl, by decide +kernel, rfl, by decide +kernel, by decide +kernel⟩
theorem ok_are_naturals (W : Wd K mg base) : FnP P w K mg base CX0 8 ("are_naturals", none) ["value", "size"] (spNats K) := by
  refine fnP_of (W.fn 4 _ rfl) sc_are_naturals (fun _ _ _ _ _ _ us hl => match us, hl with | [_, _], _ => rfl) (fun vs H Q E h => ?_) (fun A outer s H vs Q E hr h => ?_)
  · obtain ⟨v, d, m, rfl, _⟩ := h
    rfl
  · obtain ⟨v, d, m, rfl, hd, ht, q⟩ := h
    have TB := W.tb ("are_naturals", none) (by simp [tfL])
    refine ⟨_, PSs.nox (pss_one (ps_ret (pe_and (pe_callP (ok_are_integers W) hr (W.glo 2) pass0 (pa_cons (pv 0) (pa_cons (pv 1) pa_nil)))
      (pe_one (pe_allG (own := [("one", 2)]) (by rfl) W.nAll hr.hd (Room.depth hr) TB rfl sc_are_naturals.nd (blkOk_by (by kernel_rfl)) (pi_tup (pv 0)) (fun s H C cl code fp pn => pg_name (i := 2) sc_are_naturals.nd rfl (.inl rfl)) (fun s H C cl code fp pn => pts_nil)
        (fun s H C cl code fp pn => pe_cmpR op_ge (pv 2) pe_int (nomark _))))))), ?_⟩
    refine ⟨v, rfl, .int m, rfl, v, d, m, rfl, hd, ht, fun H1 g1 => ⟨_, rfl, ?_⟩⟩
    rw [natsD_eq] at q
    cases e : intsD d m with
    | false =>
      rw [e] at q
      exact q _ g1
    | true =>
      rw [e] at q
      rw [if_pos rfl]
      obtain ⟨ds, rfl, hm, hi⟩ := intsD_tuple e
      refine gx_tupD natD (fun x => rfl) ?_ mono_var
      refine ⟨v, rfl, ds, g1.dp hd, g1.tab _ (ht _ (by simp [tfL])), fun x d H2 hx g hxd Qe qe => ?_, fun H' g => q _ (g1.trans g)⟩
      have := hi d hx
      cases d with
      | int i =>
        cases hxd
        exact ⟨_, rfl, i, 0, rfl, rfl, qe _ (.refl _)⟩
      | _ => cases this
/-! ### is_rule -/
def atD (d : PyData) (i : Nat) : PyData := match d with
  | .tuple ds => ds.getD i .none
  | _ => .none
def ruleD (k n : Int) (d : PyData) : Bool := match d with
  | .tuple [a, b, c] => betD a 0 (n - 1) && (natsD b k && natsD c n)
  | _ => false
theorem ixD {H : Hp} {v : V} {ds : List PyData} {d : PyData} {Q : VK} (i : Nat) {j : Int} (h : Dp K H v (.tuple ds)) (hi : ds[i]? = some d) (hj : j = (i : Int)) (q : ∀ x, Dp K H x d → Q x H) : rIxT K v (.int j) H Q := by
  subst hj
  obtain ⟨p, xs, rfl, hs, ha⟩ := lenT h
  have hl := DpAll.length ha
  obtain ⟨hlt, _⟩ := List.getElem?_eq_some_iff.mp hi
  have hx : xs[i]? = some (xs[i]'(by omega)) := List.getElem?_eq_getElem (by omega)
  obtain ⟨d', e1, e2⟩ := DpAll.get ha hx
  rw [hi] at e1
  cases e1
  exact ⟨p, xs, i, _, rfl, rfl, hs, atI_nat hx, q _ e2⟩
/-- an item of a tuple of data -/
def rIxD (K : PySem.W.Frag) : R2 := fun x y H Q => ∃ (ds : List PyData) (d : PyData) (i : Nat), y = .int i ∧ Dp K H x (.tuple ds) ∧ ds[i]? = some d ∧ ∀ v, Dp K H v d → Q v H
theorem ix_D {X : Cx} : IxR X (rIxD X.K) := by
  intro value slice pins s σ H x y v u Q I rx ry h hs
  obtain ⟨ds, d, i, rfl, hd, hi, q⟩ := h
  exact ix_tup value slice pins s σ H x (.int i) v u Q I rx ry (ixD i hd hi rfl q) hs
def spRule (K : PySem.W.Frag) : Sp := fun vs H Q _ => ∃ v d k n, vs = [.int k, .int n, v] ∧ Dp K H v d ∧ Tbs K H ∧ ∀ H', Gr H H' → Q (.bl (ruleD k n d)) H'
theorem sc_is_rule : FnScope ["k", "n", "value"] ["k", "n", "value"] (defScope s_is_rule) := ⟨rfl, rfl, rfl, by decide +kernel, rfl, by decide +kernel, by decide +kernel⟩
theorem ok_is_rule (W : Wd K mg base) : FnP P w K mg base CX0 9 ("is_rule", none) ["k", "n", "value"] (spRule K) := by
  refine fnP_of (W.fn 6 _ rfl) sc_is_rule (fun _ _ _ _ _ _ us hl => match us, hl with | [_, _, _], _ => rfl) (fun vs H Q E h => ?_) (fun A outer s H vs Q E hr h => ?_)
  · obtain ⟨v, d, k, n, rfl, _⟩ := h
    rfl
  · obtain ⟨v, d, k, n, rfl, hd, ht, q⟩ := h
    refine ⟨_, PSs.nox (pss_cons (ps_if (pw_or (pt_not (pt_val (pe_callB call_isD (by rfl) W.nIsi (by decide +kernel) (pa_cons (pv 2) (pa_cons (pe_bltn (v := .ty "tuple") (by rfl) W.nTup (by decide +kernel) rfl) pa_nil)))))
        (pw_or1 (pt_cmpR op_ne (pe_callB call_len (by rfl) W.nLen (by decide +kernel) (pa_cons (pv 2) pa_nil)) pe_int (nomark _)))).pt (pss_one (ps_ret pe_bl)) pss_nil)
      (pss_one (ps_ret (pe_and (pe_callP (ok_is_between W) (hr.mono (by omega)) (W.glo 1) pass0 (pa_cons (pe_ix ix_D (pv 2) pe_int (fun _ _ => rfl)) (pa_cons pe_int (pa_cons (pe_op op_sub (pv 1) pe_int) pa_nil))))
        (pe_and (pe_callP (ok_are_naturals W) hr (W.glo 3) pass0 (pa_cons (pe_ix ix_D (pv 2) pe_int (fun _ _ => rfl)) (pa_cons (pv 0) pa_nil)))
        (pe_one (pe_callP (ok_are_naturals W) hr (W.glo 3) pass0 (pa_cons (pe_ix ix_D (pv 2) pe_int (fun _ _ => rfl)) (pa_cons (pv 1) pa_nil))))))))), ?_⟩
    refine ⟨v, rfl, v, "tuple", d, _, rfl, hd, kit_tup d, _, rfl, ?_⟩
    cases d with
    | tuple ds =>
      obtain ⟨p, xs, rfl, hs, ha⟩ := lenT hd
      have hl := DpAll.length ha
      refine ⟨.ref p, rfl, .ref p, xs.length, rfl, .inr ⟨xs, hs, rfl⟩, rfl, _, rfl, ?_⟩
      rw [dec_int]
      match ds, hl, hd, ha, q with
      | [a, b, c], hl, hd, ha, q =>
        have hl3 : xs.length = 3 := hl
        rw [hl3]
        have q2 : ∀ H', Gr H H' → Q (.bl (betD a 0 (n - 1) && (natsD b k && natsD c n))) H' := q
        refine ⟨.ref p, rfl, _, a, 0, rfl, hd, rfl, fun x hx => ?_⟩
        refine ⟨.int n, rfl, n, 1, rfl, rfl, x, a, 0, n - 1, rfl, hx, _, rfl, ?_⟩
        cases e1 : betD a 0 (n - 1) with
        | false =>
          rw [e1] at q2
          exact q2 _ (.refl _)
        | true =>
          rw [e1] at q2
          refine ⟨.ref p, rfl, _, b, 1, rfl, hd, rfl, fun x hx => ?_⟩
          refine ⟨.int k, rfl, x, b, k, rfl, hx, ht, fun H1 g1 => ⟨_, rfl, ?_⟩⟩
          cases e2 : natsD b k with
          | false =>
            rw [e2] at q2
            exact q2 _ g1
          | true =>
            rw [e2] at q2
            refine ⟨.ref p, rfl, _, c, 2, rfl, g1.dp hd, rfl, fun x hx => ?_⟩
            exact ⟨.int n, rfl, x, c, n, rfl, hx, ht.gr g1, fun H2 g2 => q2 _ (g1.trans g2)⟩
      | [], hl, hd, ha, q =>
        have hl3 : xs.length = 0 := hl
        rw [hl3]
        exact q _ (.refl _)
      | [_], hl, hd, ha, q =>
        have hl3 : xs.length = 1 := hl
        rw [hl3]
        exact q _ (.refl _)
      | [_, _], hl, hd, ha, q =>
        have hl3 : xs.length = 2 := hl
        rw [hl3]
        exact q _ (.refl _)
      | _ :: _ :: _ :: _ :: r, hl, hd, ha, q =>
        have hl3 : xs.length = r.length + 4 := hl
        have e : (((xs.length : Nat) : Int) == 3) = false := by
          rw [beq_eq_false_iff_ne]
          omega
        rw [e]
        exact q _ (.refl _)
    | _ => exact q _ (.refl _)
end
end K74
/-! ## Kd -/
set_option Elab.async false
set_option linter.all false
set_option maxRecDepth 100000
set_option maxHeartbeats 4000000
namespace K74
open PySem PySem.Spec PyProof.Rows L2 He Kx Gx GxR
/-! ### data in order -/
/-- x < y of data that can be compared -/
def rLtD (K : PySem.W.Frag) : R2 := fun x y H Q => ∃ d e, Dp K H x d ∧ Dp K H y e ∧ PySem.W.alike d e = true ∧ d ≠ .none ∧ min d.depth e.depth < 64 ∧ Q (.bl (PySem.W.dataLt d e)) H
theorem op_ltD {X : Cx} (hu : X.A.units + 64 < cLine) : OpR X (compareOp .Lt) (rLtD X.K) := by
  intro pins s σ H x y v u Q I rx ry h
  obtain ⟨d, e, hd, he, ha, hn, hm, q⟩ := h
  obtain ⟨as, r1⟩ := Dp.reads I d x v hd rx
  obtain ⟨bs, r2⟩ := Dp.reads I e y u he ry
  exact PySem.W.rcLt_alike d e X.A s v u as bs r1 r2 ha hn (by omega) X.prog X.w _ _ ⟨.bl _, H, I, rfl, q⟩
theorem Room.u64 {k : Nat} {A : Around} (r : Room k A) : A.units + 64 < cLine := by have := r.un; omega
def ascD (ds : List PyData) : Bool := (List.range (ds.length - 1)).all fun i => PySem.W.dataLt (ds.getD i .none) (ds.getD (i + 1) .none)
theorem foldB_true (n : Nat) (f : Nat → Bool) : foldB true n f = (List.range n).all f := rfl
section
variable {P : Program} {w : World} {K : PySem.W.Frag} {mg : Str → Option Value} {base : Heap}
def spAsc (K : PySem.W.Frag) : Sp := fun vs H Q _ => ∃ v ds, vs = [v] ∧ Dp K H v (.tuple ds) ∧ (ds.length : Int) < 2 ^ 62 ∧ (∀ a ∈ ds, ∀ b ∈ ds, PySem.W.alike a b = true) ∧ (∀ a ∈ ds, a ≠ .none ∧ a.depth < 64) ∧ Tbs K H ∧ ∀ H', Gr H H' → Q (.bl (ascD ds)) H'
theorem sc_is_ascending : FnScope ["items", "at"] ["items"] (defScope s_is_ascending) := ⟨rfl, rfl, rfl, by decide +kernel, rfl, by decide +kernel, by decide +kernel⟩
theorem ok_is_ascending (W : Wd K mg base) : FnP P w K mg base CX0 6 ("is_ascending", none) ["items"] (spAsc K) := by
  refine fnP_of (W.fn 5 _ rfl) sc_is_ascending (fun _ _ _ _ _ _ us hl => match us, hl with | [_], _ => rfl) (fun vs H Q E h => ?_) (fun A outer s H vs Q E hr h => ?_)
  · obtain ⟨v, ds, rfl, _⟩ := h
    rfl
  · obtain ⟨v, ds, rfl, hd, hsz, hal, hno, ht, q⟩ := h
    have TB := W.tb ("is_ascending", none) (by simp [tfL])
    refine ⟨_, PSs.nox (pss_one (ps_ret (pe_allG (own := [("at", 1)]) (by rfl) W.nAll hr.hd (Room.depth hr) TB rfl sc_is_ascending.nd (blkOk_by (by kernel_rfl)) (pi_range2 (by rfl) W.nRange (pa_cons pe_int (pa_cons (pe_callB call_len (by rfl) W.nLen (by decide +kernel) (pa_cons (pv 0) pa_nil)) pa_nil)))
       (fun s H C cl code fp pn => pg_name (i := 1) sc_is_ascending.nd rfl (.inl rfl)) (fun s H C cl code fp pn => pts_nil)
        (fun s H C cl code fp pn => pe_cmpR (r := rLtD K) (op_ltD (Room.u64 (room_gx (k := 1) hr _))) (pe_ix (r := rIxD K) ix_D (pv 0) (pe_op op_sub (pv 1) pe_int) (fun _ _ => rfl)) (pe_ix (r := rIxD K) ix_D (pv 0) (pv 1) (fun _ _ => rfl)) (nomark _))))), ?_⟩
    obtain ⟨p, xs, rfl, hs, ha⟩ := lenT hd
    have hl := DpAll.length ha
    refine ⟨.ref p, rfl, .ref p, xs.length, rfl, .inr ⟨xs, hs, rfl⟩, 1, xs.length, rfl, ⟨by decide, by decide, by omega, by omega⟩, ht _ (by simp [tfL]), fun H2 h2 => ?_⟩
    refine gx_core (J := Itr 1 ((xs.length : Int) - 1).toNat) (n := ((xs.length : Int) - 1).toNat) (xv := fun i => .int (1 + i)) (fun i => PySem.W.dataLt (ds.getD i .none) (ds.getD (i + 1) .none)) (fun x => rfl) (fun i H hi g => hi) (fun H g => Nat.le_refl _) (fun i H x H' g hi y => ⟨y.2, y.1⟩) (fun i H2 hi g Qe qe => ?_) (fun H' g => ?_) (.tabbed (ht _ (by simp [tfL])) h2)
    · have h1 : ds[i]? = some (ds.getD i .none) := by rw [List.getD_eq_getElem?_getD, List.getElem?_eq_getElem (by omega)]; rfl
      have h2 : ds[i + 1]? = some (ds.getD (i + 1) .none) := by rw [List.getD_eq_getElem?_getD, List.getElem?_eq_getElem (by omega)]; rfl
      have m1 := List.mem_of_getElem? h1
      have m2 := List.mem_of_getElem? h2
      refine ⟨.ref p, rfl, .int (1 + i), rfl, 1 + i, 1, rfl, rfl, ds, _, i, congrArg V.int (by omega), g.dp hd, h1, fun x hx => ?_⟩
      refine ⟨.ref p, rfl, .int (1 + i), rfl, ds, _, i + 1, congrArg V.int (by omega), g.dp hd, h2, fun y hy => ?_⟩
      exact ⟨_, _, hx, hy, hal _ m1 _ m2, (hno _ m1).1, by have := (hno _ m1).2; omega, qe _ (.refl _)⟩
    · have e : ((xs.length : Int) - 1).toNat = ds.length - 1 := by omega
      rw [e, foldB_true]
      exact q _ g
end
end K74
/-! ## Ke -/
set_option Elab.async false
set_option linter.all false
set_option maxRecDepth 100000
set_option maxHeartbeats 4000000
namespace K74
open PySem PySem.Spec PyProof.Rows L2 He Kx Gx GxR
/-! ### grammars as data -/
def gramD (d : PyData) : Bool := match d with
  | .tuple [k, n, st, rs] => betD k 1 3 && (match k, n with
    | .int k, .int n => decide (1 ≤ n) && (natsD st n && (match rs with
      | .tuple rs => rs.all (ruleD k n) && ascD rs
      | _ => false))
    | _, _ => false)
  | _ => false
/-- not too many rules -/
def szD (d : PyData) : Prop := ∀ a b c rs, d = .tuple [a, b, c, .tuple rs] → (rs.length : Int) < 2 ^ 62
theorem alike_ints : ∀ (xs ys : List PyData), xs.all natD = true → ys.all natD = true → PySem.W.alikeAll xs ys = true
  | [], _, _, _ => by rw [PySem.W.alikeAll]
  | _ :: _, [], _, _ => by rw [PySem.W.alikeAll]
  | x :: xs, y :: ys, h1, h2 => by
    simp only [List.all_cons, Bool.and_eq_true] at h1 h2
    rw [PySem.W.alikeAll, alike_ints xs ys h1.2 h2.2, Bool.and_true]
    cases x with
    | int i =>
      cases y with
      | int j => rw [PySem.W.alike]
      | _ => cases h2.1
    | _ => cases h1.1
theorem depth_ints : ∀ (xs : List PyData), xs.all natD = true → PyData.depthAll xs = 0
  | [], _ => by rw [PyData.depthAll]
  | x :: xs, h => by
    simp only [List.all_cons, Bool.and_eq_true] at h
    rw [PyData.depthAll, depth_ints xs h.2]
    cases x with
    | int i => rw [PyData.depth] <;> rfl
    | _ => cases h.1
theorem natsD_tuple {d : PyData} {m : Int} (h : natsD d m = true) : ∃ ds, d = .tuple ds ∧ (ds.length : Int) = m ∧ ds.all natD = true := by
  cases d with
  | tuple ds =>
    have h2 : (decide ((ds.length : Int) = m) && ds.all natD) = true := h
    rw [Bool.and_eq_true] at h2
    exact ⟨ds, rfl, of_decide_eq_true h2.1, h2.2⟩
  | _ => cases h
theorem ruleD_ex {k n : Int} {d : PyData} (h : ruleD k n d = true) : ∃ (a : Int) (bs cs : List PyData), d = .tuple [.int a, .tuple bs, .tuple cs] ∧ 0 ≤ a ∧ a ≤ n - 1 ∧ (bs.length : Int) = k ∧ bs.all natD = true ∧ (cs.length : Int) = n ∧ cs.all natD = true := by
  unfold ruleD at h
  split at h
  · rename_i a b c
    rw [Bool.and_eq_true, Bool.and_eq_true] at h
    obtain ⟨h1, h2, h3⟩ := h
    obtain ⟨bs, rfl, l2, a2⟩ := natsD_tuple h2
    obtain ⟨cs, rfl, l3, a3⟩ := natsD_tuple h3
    cases a with
    | int i =>
      have h4 : (decide (0 ≤ i) && decide (i ≤ n - 1)) = true := h1
      rw [Bool.and_eq_true] at h4
      exact ⟨i, bs, cs, rfl, of_decide_eq_true h4.1, of_decide_eq_true h4.2, l2, a2, l3, a3⟩
    | _ => cases h1
  · cases h
theorem ruleD_alike {k n : Int} {a b : PyData} (ha : ruleD k n a = true) (hb : ruleD k n b = true) : PySem.W.alike a b = true := by
  obtain ⟨i, bs, cs, rfl, _, _, _, h1, _, h2⟩ := ruleD_ex ha
  obtain ⟨j, es, fs, rfl, _, _, _, h3, _, h4⟩ := ruleD_ex hb
  simp only [PySem.W.alike, PySem.W.alikeAll, alike_ints _ _ h1 h3, alike_ints _ _ h2 h4, Bool.and_true]
theorem ruleD_depth {k n : Int} {a : PyData} (ha : ruleD k n a = true) : a ≠ .none ∧ a.depth < 64 := by
  obtain ⟨i, bs, cs, rfl, _, _, _, h1, _, h2⟩ := ruleD_ex ha
  refine ⟨(fun h => nomatch h), ?_⟩
  simp only [PyData.depth, PyData.depthAll, depth_ints _ h1, depth_ints _ h2]
  decide
theorem dpAll4 {K : PySem.W.Frag} {H : Hp} {xs : List V} {a b c d : PyData} (h : DpAll K H xs [a, b, c, d]) : ∃ x1 x2 x3 x4, xs = [x1, x2, x3, x4] ∧ Dp K H x1 a ∧ Dp K H x2 b ∧ Dp K H x3 c ∧ Dp K H x4 d := by
  cases h with
  | cons h1 h => cases h with
    | cons h2 h => cases h with
      | cons h3 h => cases h with
        | cons h4 h => cases h with
          | nil => exact ⟨_, _, _, _, rfl, h1, h2, h3, h4⟩
section
variable {P : Program} {w : World} {K : PySem.W.Frag} {mg : Str → Option Value} {base : Heap}
def spGram (K : PySem.W.Frag) : Sp := fun vs H Q _ => ∃ v d, vs = [v] ∧ Dp K H v d ∧ szD d ∧ Tbs K H ∧ ∀ H', Gr H H' → Q (.bl (gramD d)) H'
theorem sc_is_grammar : FnScope ["value", "k", "n", "start", "rules", "rule"] ["value"] (defScope s_is_grammar) := ⟨rfl, rfl, rfl, by decide +kernel, rfl, by decide +kernel, by decide +kernel⟩
theorem ok_is_grammar (W : Wd K mg base) : FnP P w K mg base CX0 14 ("is_grammar", none) ["value"] (spGram K) := by
  refine fnP_of (W.fn 7 _ rfl) sc_is_grammar (fun _ _ _ _ _ _ us hl => match us, hl with | [_], _ => rfl) (fun vs H Q E h => ?_) (fun A outer s H vs Q E hr h => ?_)
  · obtain ⟨v, d, rfl, _⟩ := h
    rfl
  · obtain ⟨v, d, rfl, hd, hz, ht, q⟩ := h
    have TB := W.tb ("is_grammar", none) (by simp [tfL])
    refine ⟨_, PSs.nox (pss_cons (ps_if (pw_or (pt_not (pt_val (pe_callB call_isD (by rfl) W.nIsi (by decide +kernel) (pa_cons (pv 0) (pa_cons (pe_bltn (v := .ty "tuple") (by rfl) W.nTup (by decide +kernel) rfl) pa_nil)))))
        (pw_or1 (pt_cmpR op_ne (pe_callB call_len (by rfl) W.nLen (by decide +kernel) (pa_cons (pv 0) pa_nil)) pe_int (nomark _)))).pt (pss_one (ps_ret pe_bl)) pss_nil)
      (pss_cons (ps_asg (pv 0) (pg_tup (n := 4) rfl (pgs_cons (pg_name (i := 1) sc_is_grammar.nd rfl (.inr rfl)) (pgs_cons (pg_name (i := 2) sc_is_grammar.nd rfl (.inr rfl)) (pgs_cons (pg_name (i := 3) sc_is_grammar.nd rfl (.inl rfl)) (pgs_cons (pg_name (i := 4) sc_is_grammar.nd rfl (.inl rfl)) pgs_nil))))))
      (pss_cons (ps_if (pw_or (pt_not (pt_val (pe_callP (ok_is_between W) (hr.mono (by omega)) (W.glo 1) pass0 (pa_cons (pv 1) (pa_cons pe_int (pa_cons pe_int pa_nil))))))
          (pw_or (pt_not (pt_val (pe_callP (ok_is_integer W) (hr.mono (by omega)) (W.glo 0) pass0 (pa_cons (pv 2) pa_nil))))
          (pw_or (pt_cmpR op_lt (pv 2) pe_int (nomark _))
          (pw_or1 (pt_not (pt_val (pe_callP (ok_are_naturals W) (hr.mono (by omega)) (W.glo 3) pass0 (pa_cons (pv 3) (pa_cons (pv 2) pa_nil))))))))).pt (pss_one (ps_ret pe_bl)) pss_nil)
      (pss_cons (ps_if (pw_or (pt_not (pt_val (pe_callB call_isD (by rfl) W.nIsi (by decide +kernel) (pa_cons (pv 4) (pa_cons (pe_bltn (v := .ty "tuple") (by rfl) W.nTup (by decide +kernel) rfl) pa_nil)))))
          (pw_or1 (pt_not (pt_val (pe_allG (own := [("rule", 5)]) (by rfl) W.nAll hr.hd (Room.depth hr) TB rfl sc_is_grammar.nd (blkOk_by (by kernel_rfl)) (pi_tup (pv 4)) (fun s H C cl code fp pn => pg_name (i := 5) sc_is_grammar.nd rfl (.inl rfl)) (fun s H C cl code fp pn => pts_nil)
            (fun s H C cl code fp pn => pe_callP (k := 9) (ok_is_rule W) (room_gx hr _) (W.glo 5) pass0 (pa_cons (pv 1) (pa_cons (pv 2) (pa_cons (pv 5) pa_nil))))))))).pt (pss_one (ps_ret pe_bl)) pss_nil)
      (pss_one (ps_ret (pe_callP (ok_is_ascending W) (hr.mono (by omega)) (W.glo 4) pass0 (pa_cons (pv 4) pa_nil)))))))), ?_⟩
    have hq : ∀ b, gramD d = b → ∀ H', Gr H H' → Q (.bl b) H' := fun b e => e ▸ q
    clear q
    refine ⟨v, rfl, v, "tuple", d, _, rfl, hd, kit_tup d, _, rfl, ?_⟩
    cases d with
    | tuple ds =>
      obtain ⟨p, xs, rfl, hs, ha⟩ := lenT hd
      have hl := DpAll.length ha
      refine ⟨.ref p, rfl, .ref p, xs.length, rfl, .inr ⟨xs, hs, rfl⟩, rfl, _, rfl, ?_⟩
      rw [dec_int]
      match ds, hl, hd, ha, hz, hq with
      | [dk, dn, dst, drs], hl, hd, ha, hz, hq =>
        obtain ⟨x1, x2, x3, x4, rfl, h1, h2, h3, h4⟩ := dpAll4 ha
        refine ⟨.ref p, rfl, p, _, rfl, hs, rfl, ?_⟩
        refine ⟨x1, _, rfl, x2, _, rfl, x3, _, rfl, x4, _, rfl, rfl, ?_⟩
        refine ⟨x1, rfl, x1, dk, 1, 3, rfl, h1, _, rfl, ?_⟩
        cases e1 : betD dk 1 3 with
        | false => exact hq false (by simp only [gramD, e1, Bool.false_and]) _ (.refl _)
        | true =>
        cases dk with
        | int k =>
          cases h1
          refine ⟨x2, rfl, x2, dn, rfl, h2, _, rfl, ?_⟩
          cases dn with
          | int n =>
            cases h2
            refine ⟨.int n, rfl, n, 1, rfl, rfl, _, rfl, ?_⟩
            by_cases e2 : n < 1
            · rw [decide_eq_true e2]
              exact hq false (by simp only [gramD, e1, decide_eq_false (show ¬ 1 ≤ n by omega), Bool.false_and, Bool.and_false]) _ (.refl _)
            rw [decide_eq_false e2]
            have e2' : decide (1 ≤ n) = true := decide_eq_true (by omega)
            refine ⟨x3, rfl, .int n, rfl, x3, dst, n, rfl, h3, ht, fun H1 g1 => ⟨_, rfl, ?_⟩⟩
            cases e3 : natsD dst n with
            | false => exact hq false (by simp only [gramD, e1, e2', e3, Bool.false_and, Bool.and_false]) _ g1
            | true =>
            refine ⟨x4, rfl, x4, "tuple", drs, _, rfl, g1.dp h4, kit_tup drs, _, rfl, ?_⟩
            cases drs with
            | tuple rs =>
              have hg : gramD (.tuple [.int k, .int n, dst, .tuple rs]) = (rs.all (ruleD k n) && ascD rs) := by simp only [gramD, e1, e2', e3, Bool.true_and]
              refine gx_tupD (ruleD k n) (fun x => rfl) ?_ mono_var
              refine ⟨x4, rfl, rs, g1.dp h4, g1.tab _ (ht _ (by simp [tfL])), fun x d H2 hx g hxd Qe qe => ?_, fun H2 g2 => ⟨_, rfl, ?_⟩⟩
              · exact ⟨.int k, rfl, .int n, rfl, x, rfl, x, d, k, n, rfl, hxd, ht.gr (g1.trans g), qe⟩
              · rw [if_pos rfl]
                cases e4 : rs.all (ruleD k n) with
                | false => exact hq false (by rw [hg, e4, Bool.false_and]) _ (g1.trans g2)
                | true =>
                have hr2 := List.all_eq_true.mp e4
                exact ⟨x4, rfl, x4, rs, rfl, (g1.trans g2).dp h4, hz _ _ _ _ rfl, fun a ha b hb => ruleD_alike (hr2 a ha) (hr2 b hb), fun a ha => ruleD_depth (hr2 a ha), ht.gr (g1.trans g2), fun H3 g3 => hq _ (by rw [hg, e4, Bool.true_and]) _ ((g1.trans g2).trans g3)⟩
            | _ => exact hq false (by simp only [gramD, e1, e2', e3, Bool.and_false]) _ g1
          | _ => exact hq false (by simp only [gramD, e1, Bool.and_false]) _ (.refl _)
        | _ => cases e1
      | [], hl, hd, ha, hz, hq =>
        have hl3 : xs.length = 0 := hl
        rw [hl3]
        exact hq false rfl _ (.refl _)
      | [_], hl, hd, ha, hz, hq =>
        have hl3 : xs.length = 1 := hl
        rw [hl3]
        exact hq false rfl _ (.refl _)
      | [_, _], hl, hd, ha, hz, hq =>
        have hl3 : xs.length = 2 := hl
        rw [hl3]
        exact hq false rfl _ (.refl _)
      | [_, _, _], hl, hd, ha, hz, hq =>
        have hl3 : xs.length = 3 := hl
        rw [hl3]
        exact hq false rfl _ (.refl _)
      | _ :: _ :: _ :: _ :: _ :: r, hl, hd, ha, hz, hq =>
        have hl3 : xs.length = r.length + 5 := hl
        have e : (((xs.length : Nat) : Int) == 4) = false := by
          rw [beq_eq_false_iff_ne]
          omega
        rw [e]
        exact hq false rfl _ (.refl _)
    | _ => exact hq false rfl _ (.refl _)
end
end K74
/-! ## Kf -/
set_option Elab.async false
set_option linter.all false
set_option maxRecDepth 100000
set_option maxHeartbeats 4000000
namespace K74
open PySem PySem.Spec PyProof.Rows L2 He Kx Gx GxR
section
variable {P : Program} {w : World} {K : PySem.W.Frag} {mg : Str → Option Value} {base : Heap}
/-! ### the package's errors -/
/-- what is known of one of their classes -/
structure ExF (K : PySem.W.Frag) (x : Str) : Prop where
  oex : OexC K (ga K x)
  exc : ExcC K (ga K x)
  ini : PySem.W.findIn K (.ref (ga K x)) "__init__" = some (some (.ref (ma K (ga K "CountError") "__init__")))
  val : PySem.W.findIn K (.ref (ga K x)) "value" = some none
  exm : PySem.W.exmOne K (.ref (ga K x)) (.ref (ga K "CountError")) = some true
  kitV : PySem.W.kitOne K (.ref (ga K x)) (.type "ValueError") = some true
  kit : ∀ y ∈ excL, PySem.W.kitOne K (.ref (ga K x)) (.ref (ga K y)) = some (decide (x = y))
theorem Wd.exF (W : Wd K mg base) {x : Str} (hx : x ∈ excL) : ExF K x := by
  obtain ⟨_, h⟩ := ba W.ex
  obtain ⟨h1, h⟩ := ba (List.all_eq_true.mp h x hx)
  obtain ⟨h2, h⟩ := ba h
  obtain ⟨h3, h⟩ := ba h
  obtain ⟨h4, h⟩ := ba h
  obtain ⟨h5, h⟩ := ba h
  obtain ⟨h6, h7⟩ := ba h
  exact ⟨oexB_ok h1, excCB_ok h2, eqO_ok h3, eqO_ok h4, of_decide_eq_true h5, of_decide_eq_true h6, fun y hy => of_decide_eq_true (List.all_eq_true.mp h7 y hy)⟩
theorem Wd.tyI (W : Wd K mg base) : PySem.W.typeIn K (.ref (ma K (ga K "CountError") "__init__")) = some (.type "function") := of_decide_eq_true (ba W.ex).1
def spInit (K : PySem.W.Frag) : Sp := fun vs H Q _ => ∃ (a C : Addr) (v : V), vs = [.ref a, v] ∧ OexC K C ∧ PySem.W.findIn K (.ref C) "value" = some none ∧ H a = some (exo a C none) ∧ ∀ dx, H dx = none → dx ≠ a → Q .non (upd (upd H dx (exd dx [("value", v)])) a (exo a C (some dx)))
theorem sc_init : FnScope ["self", "value"] ["self", "value"] (defScope s_CountError_dinit) := ⟨rfl, rfl, rfl, by decide +kernel, rfl, by decide +kernel, by decide +kernel⟩
theorem ok_init (W : Wd K mg base) : FnP P w K mg base CX0 1 ("CountError", some "__init__") ["self", "value"] (spInit K) := by
  refine fnP_of (W.fn 0 _ rfl) sc_init (fun _ _ _ _ _ _ us hl => match us, hl with | [_, _], _ => rfl) (fun vs H Q E h => ?_) (fun A outer s H vs Q E hr h => ?_)
  · obtain ⟨a, C, v, rfl, _⟩ := h
    rfl
  · obtain ⟨a, C, v, rfl, hC, hv, ha, q⟩ := h
    refine ⟨_, PSs.nox (pss_one (ps_ost (pv 0) (pv 1))), ?_⟩
    exact ⟨v, rfl, .ref a, rfl, a, C, rfl, hC, hv, .inl ⟨ha, q⟩⟩
/-- C(v), an error of the package: what is to be shown behind v -/
theorem mkO_ok {x : Str} (F : ExF K x) {v : V} {H1 : Hp} {Q : XK} (h : ∀ d, H1 d = none → Q (.ref (ga K x)) (some d) (upd H1 d (.xd [("value", v)]))) :
    [v].length ≤ 1000 ∧ ∀ a, H1 a = none → spInit K (.ref a :: ([v] ++ [])) (upd H1 a (exo a (ga K x) none))
      (fun u H2 => u = .non ∧ ∃ (d : Addr) (fs : List (Str × V)), H2 a = some (exo a (ga K x) (some d)) ∧ H2 d = some (exd d fs) ∧ H1 d = none ∧ Q (.ref (ga K x)) (some d) (upd (del H2 a) d (.xd fs))) (fun _ _ _ => False) := by
  refine ⟨by simp, fun a ha => ⟨a, ga K x, v, rfl, F.oex, F.val, upd_same, fun dx hdx ne => ⟨rfl, dx, [("value", v)], upd_same, ?_, ?_, ?_⟩⟩⟩
  · rw [upd_ne ne]
    exact upd_same
  · rw [upd_ne ne] at hdx
    exact hdx
  · rw [upd_ne ne] at hdx
    have e : upd (del (upd (upd (upd H1 a (exo a (ga K x) none)) dx (exd dx [("value", v)])) a (exo a (ga K x) (some dx))) a) dx (.xd [("value", v)]) = upd H1 dx (.xd [("value", v)]) := by
      funext b
      by_cases hb : b = dx
      · rw [hb, upd_same, upd_same]
      · rw [upd_ne hb, upd_ne hb]
        by_cases hba : b = a
        · rw [hba, del_same, ha]
        · rw [del_ne hba, upd_ne hba, upd_ne hb, upd_ne hba]
    rw [e]
    exact h dx hdx
theorem pmk_err {X : Cx} {x : Str} {e : Expr} {te : TE} {p pos : Pos} (W : Wd X.K X.mg X.base) (hx : x ∈ excL) (hr : Room 2 X.A) (hm : X.mg x = some (.ref (ga X.K x))) (he : PE X e te) (hg : Gl X x := by rfl)
    (hdb : (x == ("__debug__" : Str)) = false := by decide) (hs : starEach [e] X.env = (false, eval e X.env) :: starEach [] X.env := by rfl) : PMk X (.Call (.Name x p) [e] [] pos) (tMkO (ga X.K x) (spInit X.K) [] (tCons te tNil)) := by
  have F := W.exF hx
  obtain ⟨fd, G, b, kp⟩ := ok_init (P := X.prog) (w := X.w) W
  exact pmk_oex (p := p) (pos := pos) F.oex F.ini W.tyI G hr b .nil pass0 hg hm (pa_cons he pa_nil hs) hdb hs (by rfl)
/-! ### check_grammar -/
def spChk (K : PySem.W.Frag) : Sp := fun vs H Q E => ∃ v d, vs = [v] ∧ Dp K H v d ∧ szD d ∧ Tbs K H ∧ (gramD d = true → ∀ H', Gr H H' → Q .non H') ∧
  (gramD d = false → ∀ H', Gr H H' → ∀ dx, H' dx = none → E (.ref (ga K "InvalidGrammar")) (some dx) (upd H' dx (.xd [("value", v)])))
theorem sc_check : FnScope ["grammar"] ["grammar"] (defScope s_check_grammar) := ⟨rfl, rfl, rfl, by decide +kernel, rfl, by decide +kernel, by decide +kernel⟩
theorem ok_check (W : Wd K mg base) : FnP P w K mg base (L2.CX P w) 15 ("check_grammar", none) ["grammar"] (spChk K) := by
  refine fnP_of (W.fn 8 _ rfl) sc_check (fun _ _ _ _ _ _ us hl => match us, hl with | [_], _ => rfl) (fun vs H Q E h => ?_) (fun A outer s H vs Q E hr h => ?_)
  · obtain ⟨v, d, rfl, _⟩ := h
    rfl
  · obtain ⟨v, d, rfl, hd, hz, ht, q, e⟩ := h
    refine ⟨_, pss_one (ps_if (pt_not (pt_val (pe_callP (ok_is_grammar W) hr (W.glo 6) pass0 (pa_cons (pv 0) pa_nil)))) (pss_one (ps_raise rfl (takes_of rfl rfl rfl rfl) (pmk_err W (x := "InvalidGrammar") (by decide) (hr.mono (by omega)) (W.glo 25) (pv 0)))) pss_nil), ?_⟩
    refine ⟨v, rfl, v, d, rfl, hd, hz, ht, fun H1 g1 => ⟨_, rfl, ?_⟩⟩
    cases eg : gramD d with
    | true => exact q eg _ g1
    | false => exact ⟨v, rfl, mkO_ok (W.exF (by decide)) (e eg _ g1)⟩
end
end K74
/-! ## Kg -/
set_option Elab.async false
set_option linter.all false
set_option maxRecDepth 100000
set_option maxHeartbeats 4000000
namespace K74
open PySem PySem.Spec PyProof.Rows L2 He Kx Gx GxR
/-! ### names -/
def lett : Str := "abcdefghijklmnopqrstuvwxyz"
def signB (c : Nat) : Bool := decide (c ∈ lett.cps.toList)
def nameD (d : PyData) : Bool := match d with
  | .str x => decide (1 ≤ x.length) && (decide (x.length ≤ 8) && x.cps.toList.all signB)
  | _ => false
theorem range_allN (pr : Nat → Bool) (ds : List Nat) : ((List.range ds.length).all fun i => pr (ds.getD i 0)) = ds.all pr := by
  rw [Bool.eq_iff_iff, List.all_eq_true, List.all_eq_true]
  constructor
  · intro h x hx
    obtain ⟨i, hi, rfl⟩ := List.mem_iff_getElem.mp hx
    have := h i (List.mem_range.mpr hi)
    rwa [List.getD_eq_getElem?_getD, List.getElem?_eq_getElem hi] at this
  · intro h i hi
    have hi := List.mem_range.mp hi
    rw [List.getD_eq_getElem?_getD, List.getElem?_eq_getElem hi]
    exact h _ (List.getElem_mem hi)
section
variable {P : Program} {w : World} {K : PySem.W.Frag} {mg : Str → Option Value} {base : Heap}
/-- a text is short -/
def shortD (d : PyData) : Prop := ∀ x, d = .str x → x.length ≤ sizeLine
def spName (K : PySem.W.Frag) : Sp := fun vs H Q _ => ∃ v d, vs = [v] ∧ Dp K H v d ∧ shortD d ∧ Tbs K H ∧ ∀ H', Gr H H' → Q (.bl (nameD d)) H'
theorem sc_is_name : FnScope ["value", "sign"] ["value"] (defScope s_is_name) := ⟨rfl, rfl, rfl, by decide +kernel, rfl, by decide +kernel, by decide +kernel⟩
theorem ok_is_name (W : Wd K mg base) : FnP P w K mg base CX0 7 ("is_name", none) ["value"] (spName K) := by
  refine fnP_of (W.fn 9 _ rfl) sc_is_name (fun _ _ _ _ _ _ us hl => match us, hl with | [_], _ => rfl) (fun vs H Q E h => ?_) (fun A outer s H vs Q E hr h => ?_)
  · obtain ⟨v, d, rfl, _⟩ := h
    rfl
  · obtain ⟨v, d, rfl, hd, hs, ht, q⟩ := h
    have TB := W.tb ("is_name", none) (by simp [tfL])
    obtain ⟨t8, g8⟩ := int_ok W.kin W.ns (W.fa 53 _ rfl)
    obtain ⟨tl, gl⟩ := str_ok W.kin W.ns (W.fa 54 _ rfl)
    refine ⟨_, PSs.nox (pss_one (ps_ret (pe_and (pe_callB call_isD (by rfl) W.nIsi (by decide +kernel) (pa_cons (pv 0) (pa_cons (pe_bltn (v := .ty "str") (by rfl) W.nStr (by decide +kernel) rfl) pa_nil)))
      (pe_and (pe_chain op_le op_le pe_int (pe_callB call_len (by rfl) W.nLen (by decide +kernel) (pa_cons (pv 0) pa_nil)) (pe_glob (v := .int 8) (by rfl) g8 ⟨_, rfl⟩))
      (pe_one (pe_allG (own := [("sign", 1)]) (by rfl) W.nAll hr.hd (Room.depth hr) TB rfl sc_is_name.nd (blkOk_by (by kernel_rfl)) (pi_str (pv 0)) (fun s H C cl code fp pn => pg_name (i := 1) sc_is_name.nd rfl (.inl rfl)) (fun s H C cl code fp pn => pts_nil)
        (fun s H C cl code fp pn => pe_cmpR op_in_str (pv 1) (pe_glob (v := .str lett) (by rfl) gl ⟨_, rfl⟩) (by with_unfolding_all rfl)))))))), ?_⟩
    refine ⟨v, rfl, v, "str", d, _, rfl, hd, kit_str d, _, rfl, ?_⟩
    cases d with
    | str x =>
      cases hd
      have q2 : ∀ H', Gr H H' → Q (.bl (decide (1 ≤ x.length) && (decide (x.length ≤ 8) && x.cps.toList.all signB))) H' := q
      refine ⟨.str x, rfl, .str x, x.length, rfl, ⟨hs _ rfl, rfl⟩, 1, x.length, rfl, rfl, _, rfl, ?_⟩
      by_cases e1 : 1 ≤ x.length
      · rw [decide_eq_true (show (1 : Int) ≤ (x.length : Int) by omega), if_pos rfl]
        rw [decide_eq_true e1] at q2
        refine ⟨x.length, 8, rfl, rfl, _, rfl, ?_⟩
        by_cases e2 : x.length ≤ 8
        · rw [decide_eq_true (show (x.length : Int) ≤ 8 by omega), if_pos rfl]
          rw [decide_eq_true e2] at q2
          refine ⟨.str x, rfl, x, rfl, ht _ (by simp [tfL]), fun H2 h2 => ?_⟩
          refine gx_core (J := Its x) (n := x.cps.size) (xv := fun i => .str ⟨#[x.cps.toList.getD i 0]⟩) (fun i => signB (x.cps.toList.getD i 0)) (fun _ => rfl) (fun i H hi g => hi) (fun H g => Nat.le_refl _) (fun i H y H' g hi z => ?_) (fun i H2 hi g Qe qe => ?_) (fun H' g => ?_) (.tabbed (ht _ (by simp [tfL])) h2)
          · obtain ⟨e, c, hc, rfl⟩ := z
            refine ⟨?_, e⟩
            rw [← Array.getElem?_toList] at hc
            rw [List.getD_eq_getElem?_getD, hc]
            rfl
          · refine ⟨.str ⟨#[x.cps.toList.getD i 0]⟩, rfl, ⟨#[x.cps.toList.getD i 0]⟩, lett, rfl, rfl, ?_⟩
            rw [PySem.StrLaws.found_one]
            exact qe _ (.refl _)
          · have e : foldB true x.cps.size (fun i => signB (x.cps.toList.getD i 0)) = x.cps.toList.all signB := range_allN signB x.cps.toList
            rw [e]
            exact q2 _ g
        · rw [decide_eq_false (show ¬ (x.length : Int) ≤ 8 by omega)]
          rw [decide_eq_false e2] at q2
          exact q2 _ (.refl _)
      · rw [decide_eq_false (show ¬ (1 : Int) ≤ (x.length : Int) by omega)]
        rw [decide_eq_false e1] at q2
        rw [if_neg Bool.false_ne_true]
        exact ⟨_, rfl, q2 _ (.refl _)⟩
    | _ => exact q _ (.refl _)
end
end K74
/-! ## Kh -/
set_option Elab.async false
set_option linter.all false
set_option maxRecDepth 100000
set_option maxHeartbeats 4000000
namespace K74
open PySem PySem.Spec PyProof.Rows L2 He Kx Gx GxR
theorem Room.u1 {k : Nat} {A : Around} (r : Room k A) : A.units + 1 < cLine := by have := r.un; omega
abbrev cC (K : PySem.W.Frag) : Addr := ga K "Console"
/-- o.m(e, ..), o a console -/
theorem pe_methP {X : Cx} {CX : CXT} {m : Str} {ps : List Str} {k : Nat} {sp : Sp} {E : XK} {o e : Expr} {es : List Expr} {ta : TE} {t : TA} {apos pos : Pos} {pl : Sem Bool} (G : FnP X.prog X.w X.K X.mg X.base CX k ("Console", some m) ps sp) (c : Cls X.K (cC X.K)) (hm : Meth X.K (cC X.K) m (ma X.K (cC X.K) m)) (hr : Room k X.A) (hx : Passes CX X E) (ho : PE X o ta) (ha : PA X (e :: es) t)
    (hst : starEach (e :: es) X.env = (false, eval e X.env) :: starEach es X.env := by rfl) (hpl : (backTo pos (starEach es X.env)).any (·.1) = false := by rfl)
    (ht : eval (.Call (.Attribute o m apos) (e :: es) [] pos) X.env = (do
      let ov ← eval o X.env
      standAt apos.atName
      let (f, first) ← holding [ov] (getMethod ov m pl)
      callWith pos f first (backTo pos (starEach (e :: es) X.env)) (backToKw pos (keywordEach [] X.env))) := by rfl) :
    PE X (.Call (.Attribute o m apos) (e :: es) [] pos) (tMeth (cC X.K) m sp [] E ta t) := by
  obtain ⟨fd, G, b, kp⟩ := G
  exact pe_meth (pl := pl) ho c hm G hr b .nil hx ha hst hpl ht
section
variable {P : Program} {w : World} {K : PySem.W.Frag} {mg : Str → Option Value} {base : Heap}
theorem Wd.cls (W : Wd K mg base) : Cls K (cC K) := cls_ok (W.fa 55 _ rfl)
theorem Wd.nKept (W : Wd K mg base) : NoAttr K (cC K) "_kept" := noat_ok (W.fa 56 _ rfl)
theorem Wd.nPast (W : Wd K mg base) : NoAttr K (cC K) "_past" := noat_ok (W.fa 57 _ rfl)
theorem Wd.meth (W : Wd K mg base) (i : Nat) {m : Str} (h : faL[i]? = some (.meth "Console" m) := by rfl) : Meth K (cC K) m (ma K (cC K) m) := meth_ok (W.fa i _ h)
/-- the console's two fields -/
abbrev cF (dk dp : Addr) : List (Str × V) := [("_kept", .ref dk), ("_past", .ref dp)]
/-! ### Console.__init__ -/
def spCn (K : PySem.W.Frag) : Sp := fun vs H Q _ => ∃ (c dx : Addr), vs = [.ref c] ∧ H c = some (.ins (cC K) dx []) ∧ ∀ dk dp, H dk = none → H dp = none → dp ≠ dk → Q .non (upd (upd (upd H dk (.dK [])) dp (.lst [])) c (.ins (cC K) dx (cF dk dp)))
theorem sc_cinit : FnScope ["self"] ["self"] (defScope s_Console_dinit) := ⟨rfl, rfl, rfl, by decide +kernel, rfl, by decide +kernel, by decide +kernel⟩
theorem ok_cinit (W : Wd K mg base) : FnP P w K mg base CX0 1 ("Console", some "__init__") ["self"] (spCn K) := by
  refine fnP_of (W.fn 10 _ rfl) sc_cinit (fun _ _ _ _ _ _ us hl => match us, hl with | [_], _ => rfl) (fun vs H Q E h => ?_) (fun A outer s H vs Q E hr h => ?_)
  · obtain ⟨c, dx, rfl, _⟩ := h
    rfl
  · obtain ⟨c, dx, rfl, hc, q⟩ := h
    refine ⟨_, PSs.nox (pss_cons (ps_fld (pv 0) pe_dnewK (by rfl)) (pss_one (ps_fld (pv 0) (pe_lst pa_nil) (by rfl)))), ?_⟩
    intro dk hdk
    have n1 : c ≠ dk := ne_of_none hc hdk
    refine ⟨.ref c, rfl, c, cC K, dx, [], rfl, by rw [upd_ne n1]; exact hc, W.cls, W.nKept, by simp, ?_⟩
    refine ⟨by simp, fun dp hdp => ?_⟩
    have n2 : c ≠ dp := ne_of_none upd_same hdp
    have n3 : dp ≠ c := Ne.symm n2
    have n4 : dp ≠ dk := fun z => by
      rw [z, upd_ne (Ne.symm n1), upd_same] at hdp
      cases hdp
    rw [upd_ne n3, upd_ne n4] at hdp
    refine ⟨.ref c, rfl, c, cC K, dx, [("_kept", .ref dk)], rfl, by rw [upd_ne n2]; exact upd_same, W.cls, W.nPast, by simp, ?_⟩
    have e : upd (upd (upd (upd H dk (.dK [])) c (.ins (cC K) dx (putF "_kept" (.ref dk) []))) dp (.lst [])) c (.ins (cC K) dx (putF "_past" (.ref dp) [("_kept", .ref dk)])) = upd (upd (upd H dk (.dK [])) dp (.lst [])) c (.ins (cC K) dx (cF dk dp)) := by
      funext b
      by_cases hb : b = c
      · rw [hb, upd_same, upd_same]
        rfl
      · rw [upd_ne hb, upd_ne hb]
        by_cases hb2 : b = dp
        · rw [hb2, upd_same, upd_same]
        · rw [upd_ne hb2, upd_ne hb2, upd_ne hb]
    show Q .non _
    rw [e]
    exact q dk dp hdk hdp n4
/-! ### Console._put -/
/-- the kept names behind _put -/
def newK (kvs : List (Key × V)) (n : Str) (g : V) : List (Key × V) := if g = .non then dropK kvs (.inr n) else putK kvs (.inr n) g
theorem dropK_none {kvs : List (Key × V)} {k : Key} (h : valV kvs k = none) : dropK kvs k = kvs := by
  unfold dropK
  rw [List.filter_eq_self]
  intro p hp
  rw [decide_eq_true_iff]
  intro e
  have := valV_any k kvs
  rw [h] at this
  have h2 := List.any_eq_false.mp this p hp
  rw [decide_eq_true_iff] at h2
  exact h2 e
theorem upd_self {H : Hp} {a : Addr} {o : HO} (h : H a = some o) : upd H a o = H := by
  funext b
  by_cases hb : b = a
  · rw [hb, upd_same, h]
  · rw [upd_ne hb]
def spPut (K : PySem.W.Frag) : Sp := fun vs H Q _ => ∃ (c dx dk dp : Addr) (n : Str) (g : V) (kvs : List (Key × V)), vs = [.ref c, .str n, g] ∧ H c = some (.ins (cC K) dx (cF dk dp)) ∧ H dk = some (.dK kvs) ∧ kvs.length < sizeLine ∧ Q .non (upd H dk (.dK (newK kvs n g)))
theorem sc_cput : FnScope ["self", "name", "grammar"] ["self", "name", "grammar"] (defScope s_Console_put) := ⟨rfl, rfl, rfl, by decide +kernel, rfl, by decide +kernel, by decide +kernel⟩
theorem ok_cput (W : Wd K mg base) : FnP P w K mg base CX0 1 ("Console", some "_put") ["self", "name", "grammar"] (spPut K) := by
  refine fnP_of (W.fn 12 _ rfl) sc_cput (fun _ _ _ _ _ _ us hl => match us, hl with | [_, _, _], _ => rfl) (fun vs H Q E h => ?_) (fun A outer s H vs Q E hr h => ?_)
  · obtain ⟨c, dx, dk, dp, n, g, kvs, rfl, _⟩ := h
    rfl
  · obtain ⟨c, dx, dk, dp, n, g, kvs, rfl, hc, hk, hl, q⟩ := h
    refine ⟨_, PSs.nox (pss_one (ps_if (pt_cmpR op_isN (pv 2) pe_non (nomark _)) (pss_one (ps_expr (pe_dpop2 (pe_fld (pv 0) (by rfl)) (pv 1) pe_non ⟨by rfl, by rfl, by rfl, by rfl⟩)))
      (pss_one (ps_dput (Room.u1 hr) (pe_fld (pv 0) (by rfl)) (pv 1) (pv 2) (by rfl))))), ?_⟩
    refine ⟨g, rfl, rfl, _, rfl, ?_⟩
    by_cases hg : g = .non
    · subst hg
      have e : newK kvs n .non = dropK kvs (.inr n) := if_pos rfl
      rw [e] at q
      refine ⟨.ref c, rfl, c, cC K, dx, cF dk dp, .ref dk, rfl, hc, W.cls, W.nKept, rfl, dk, rfl, .inl ⟨kvs, .inl hk⟩, .str n, rfl, kvs, .inr n, hk, rfl, fun v hv => q, fun hn => ?_⟩
      rw [dropK_none hn, upd_self hk] at q
      exact q
    · rw [decide_eq_false hg]
      have e : newK kvs n g = putK kvs (.inr n) g := if_neg hg
      rw [e] at q
      exact ⟨g, rfl, .ref c, rfl, c, cC K, dx, cF dk dp, .ref dk, rfl, hc, W.cls, W.nKept, rfl, .str n, rfl, dk, _, rfl, DPut.k (k := .inr n) hk hl, q⟩
/-! ### Console._change -/
/-- what _change does -/
def ChgP (K : PySem.W.Frag) (H : Hp) (dk dp : Addr) (kvs : List (Key × V)) (ps : List V) (n : Str) (g : V) (Q : VK) : Prop := ∃ d e, Dp K H g d ∧ Dp K H ((valV kvs (.inr n)).getD .non) e ∧ SeqAt.shaped d = true ∧ SeqAt.shaped e = true ∧
  (PyData.eqv d e = true → Q .non H) ∧ (PyData.eqv d e = false → ∀ t, H t = none → Q .non (upd (upd (upd H t (.tup [.str n, (valV kvs (.inr n)).getD .non])) dp (.lst (ps ++ [.ref t]))) dk (.dK (newK kvs n g))))
def spChg (K : PySem.W.Frag) : Sp := fun vs H Q _ => ∃ (c dx dk dp : Addr) (n : Str) (g : V) (kvs : List (Key × V)) (ps : List V), vs = [.ref c, .str n, g] ∧ H c = some (.ins (cC K) dx (cF dk dp)) ∧ H dk = some (.dK kvs) ∧ H dp = some (.lst ps) ∧ kvs.length < sizeLine ∧ ps.length < sizeLine ∧
  ChgP K H dk dp kvs ps n g Q
theorem sc_cchg : FnScope ["self", "name", "grammar", "elder"] ["self", "name", "grammar"] (defScope s_Console_change) := ⟨rfl, rfl, rfl, by decide +kernel, rfl, by decide +kernel, by decide +kernel⟩
theorem ok_cchg (W : Wd K mg base) : FnP P w K mg base CX0 2 ("Console", some "_change") ["self", "name", "grammar"] (spChg K) := by
  refine fnP_of (W.fn 11 _ rfl) sc_cchg (fun _ _ _ _ _ _ us hl => match us, hl with | [_, _, _], _ => rfl) (fun vs H Q E h => ?_) (fun A outer s H vs Q E hr h => ?_)
  · obtain ⟨c, dx, dk, dp, n, g, kvs, ps, rfl, _⟩ := h
    rfl
  · obtain ⟨c, dx, dk, dp, n, g, kvs, ps, rfl, hc, hk, hp, hl, hl2, d, e, hd, he, sd, se, q1, q2⟩ := h
    refine ⟨_, PSs.nox (pss_cons (ps_set (i := 3) sc_cchg.nd rfl (.inl rfl) (pe_dget1 (Room.u1 hr) (pe_fld (pv 0) (by rfl)) (pv 1) ⟨by rfl, by rfl, by rfl, by rfl⟩))
      (pss_cons (ps_if (pt_cmpR (op_eqD (Room.u64 hr)) (pv 2) (pv 3) (nomark _)) (pss_one ps_retN) pss_nil)
      (pss_cons (ps_expr (pe_bm PySem.F.plainAttrs_list PySem.F.slot_list_append PySem.F.type_list_append mt_append (pe_fld (pv 0) (by rfl)) (pa_cons (pe_tup (pa_cons (pv 1) (pa_cons (pv 3) pa_nil))) pa_nil)))
      (pss_one (ps_expr (pe_methP (ok_cput W) W.cls (W.meth 59) hr pass0 (pv 0) (pa_cons (pv 1) (pa_cons (pv 2) pa_nil)))))))), ?_⟩
    refine ⟨.ref c, rfl, c, cC K, dx, cF dk dp, .ref dk, rfl, hc, W.cls, W.nKept, rfl, dk, rfl, .inl ⟨kvs, .inl hk⟩, .str n, rfl, _, DGet.k (k := .inr n) hk, ?_⟩
    refine ⟨g, rfl, _, rfl, d, e, hd, he, sd, se, _, rfl, ?_⟩
    cases eq : PyData.eqv d e with
    | true => exact q1 eq
    | false =>
      refine ⟨.ref c, rfl, c, cC K, dx, cF dk dp, .ref dp, rfl, hc, W.cls, W.nPast, rfl, .inl ⟨rfl, ps, SqL.of hp⟩, .str n, rfl, _, rfl, by simp [sizeLine_eq], fun t ht => ?_⟩
      have n1 : dp ≠ t := ne_of_none hp ht
      have n2 : dk ≠ t := ne_of_none hk ht
      have n3 : c ≠ t := ne_of_none hc ht
      have n4 : dk ≠ dp := fun z => by rw [z, hp] at hk; cases hk
      have n5 : c ≠ dp := fun z => by rw [z, hp] at hc; cases hc
      refine ⟨dp, ps, .ref t, rfl, rfl, by rw [upd_ne n1]; exact hp, hl2, ?_⟩
      refine ⟨.ref c, rfl, c, dx, cF dk dp, rfl, by rw [upd_ne n5, upd_ne n3]; exact hc, rfl, .str n, rfl, g, rfl, ?_⟩
      exact ⟨c, dx, dk, dp, n, g, kvs, rfl, by rw [upd_ne n5, upd_ne n3]; exact hc, by rw [upd_ne n4, upd_ne n2]; exact hk, hl, q2 eq t ht⟩
end
end K74
/-! ## Ki -/
set_option Elab.async false
set_option linter.all false
set_option maxRecDepth 100000
set_option maxHeartbeats 4000000
namespace K74
open PySem PySem.Spec PyProof.Rows L2 He Kx Gx GxR
/-! ### in, not in, len of an object by its own methods -/
section
variable {X : Cx} {CX : CXT} {C f : Addr} {k : Nat} {fd : FuncData} {ps : List Str} {sp : Sp} {E : XK}
/-- x in o, x not in o (neg) -/
def rInC (C : Addr) (sp : Sp) (E : XK) (neg : Bool) : R2 := fun x y H Q => ∃ c dx fs, y = .ref c ∧ H c = some (.ins C dx fs) ∧ sp [.ref c, x] H (fun v H' => ∃ b, v = .bl b ∧ Q (.bl (if neg then !b else b)) H') E
theorem op_inC (hm : Meth X.K C "__contains__" f) (F : FnOk X.prog X.w X.K X.mg X.base CX k f fd ps sp) (hr : Room k X.A) (hb : Binds X.K fd ps []) (hx : Passes CX X E) : OpR X (compareOp .In) (rInC C sp E false) := by
  intro pins s σ H x y v u Q I rx ry h
  obtain ⟨c, dx, fs, rfl, hc, h⟩ := h
  obtain rfl : u = Value.ref c := ry
  obtain ⟨mA, O, _, _, _, _⟩ := ins_get I.hok hc
  obtain ⟨od, J, _⟩ := O.look
  obtain ⟨m, fr⟩ := I.fr
  refine PySem.W.in_K fr I.ok.mod.kin J hm.at_ hm.fn (thn (run_fn (us := [.ref c, v]) (vs := [.ref c, x]) F hr hb .nil hx I (.cons rfl (.cons rx .nil)) h) fun r s1 ⟨z, H1, I1, rz, b, e, q⟩ => ?_)
  subst e
  cases rz
  exact wpAny_truthy_bool ⟨.bl b, H1, I1, rfl, q⟩
theorem op_notInC (hm : Meth X.K C "__contains__" f) (F : FnOk X.prog X.w X.K X.mg X.base CX k f fd ps sp) (hr : Room k X.A) (hb : Binds X.K fd ps []) (hx : Passes CX X E) : OpR X (compareOp .NotIn) (rInC C sp E true) := by
  intro pins s σ H x y v u Q I rx ry h
  obtain ⟨c, dx, fs, rfl, hc, h⟩ := h
  obtain rfl : u = Value.ref c := ry
  obtain ⟨mA, O, _, _, _, _⟩ := ins_get I.hok hc
  obtain ⟨od, J, _⟩ := O.look
  obtain ⟨m, fr⟩ := I.fr
  refine PySem.W.notIn_K fr I.ok.mod.kin J hm.at_ hm.fn (thn (run_fn (us := [.ref c, v]) (vs := [.ref c, x]) F hr hb .nil hx I (.cons rfl (.cons rx .nil)) h) fun r s1 ⟨z, H1, I1, rz, b, e, q⟩ => ?_)
  subst e
  cases rz
  exact wpAny_truthy_bool ⟨.bl (!b), H1, I1, rfl, q⟩
end
section
variable {P : Program} {w : World} {K : PySem.W.Frag} {mg : Str → Option Value} {base : Heap}
/-! ### Console.__contains__ -/
/-- a name is kept -/
def inD (kvs : List (Key × V)) (d : PyData) : Bool := nameD d && (match d with
  | .str n => (valV kvs (.inr n)).isSome
  | _ => false)
def spHas (K : PySem.W.Frag) : Sp := fun vs H Q _ => ∃ (c dx dk dp : Addr) (v : V) (d : PyData) (kvs : List (Key × V)), vs = [.ref c, v] ∧ H c = some (.ins (cC K) dx (cF dk dp)) ∧ H dk = some (.dK kvs) ∧ Dp K H v d ∧ shortD d ∧ Tbs K H ∧ ∀ H', Gr H H' → Q (.bl (inD kvs d)) H'
theorem sc_chas : FnScope ["self", "name"] ["self", "name"] (defScope s_Console_dcontains) := ⟨rfl, rfl, rfl, by decide +kernel, rfl, by decide +kernel, by decide +kernel⟩
theorem ok_chas (W : Wd K mg base) : FnP P w K mg base CX0 8 ("Console", some "__contains__") ["self", "name"] (spHas K) := by
  refine fnP_of (W.fn 19 _ rfl) sc_chas (fun _ _ _ _ _ _ us hl => match us, hl with | [_, _], _ => rfl) (fun vs H Q E h => ?_) (fun A outer s H vs Q E hr h => ?_)
  · obtain ⟨c, dx, dk, dp, v, d, kvs, rfl, _⟩ := h
    rfl
  · obtain ⟨c, dx, dk, dp, v, d, kvs, rfl, hc, hk, hd, hs, ht, q⟩ := h
    refine ⟨_, PSs.nox (pss_one (ps_ret (pe_and (pe_callP (ok_is_name W) hr (W.glo 8) pass0 (pa_cons (pv 1) pa_nil)) (pe_one (pe_cmp (pc_din (Room.u1 hr) (pv 1) (pe_fld (pv 0) (by rfl))) (by with_unfolding_all rfl)))))), ?_⟩
    refine ⟨v, rfl, v, d, rfl, hd, hs, ht, fun H1 g1 => ⟨_, rfl, ?_⟩⟩
    cases e : nameD d with
    | false =>
      have e2 : inD kvs d = false := by unfold inD; rw [e]; rfl
      rw [e2] at q
      exact q _ g1
    | true =>
      cases d with
      | str n =>
        cases hd
        have e2 : inD kvs (.str n) = (valV kvs (.inr n)).isSome := by unfold inD; rw [e]; rfl
        rw [e2] at q
        exact ⟨.str n, rfl, .ref c, rfl, c, cC K, dx, cF dk dp, .ref dk, rfl, g1.ins hc, W.cls, W.nKept, rfl, dk, _, rfl, DGet.k (k := .inr n) (g1.dK hk), q _ g1⟩
      | _ => cases e
/-! ### Console.grammar -/
def spGet (K : PySem.W.Frag) : Sp := fun vs H Q E => ∃ (c dx dk dp : Addr) (v : V) (d : PyData) (kvs : List (Key × V)), vs = [.ref c, v] ∧ H c = some (.ins (cC K) dx (cF dk dp)) ∧ H dk = some (.dK kvs) ∧ Dp K H v d ∧ shortD d ∧ Tbs K H ∧
  (inD kvs d = true → ∀ n g, d = .str n → valV kvs (.inr n) = some g → ∀ H', Gr H H' → Q g H') ∧ (inD kvs d = false → ∀ H', Gr H H' → ∀ x, H' x = none → E (.ref (ga K "UnknownName")) (some x) (upd H' x (.xd [("value", v)])))
theorem sc_cget : FnScope ["self", "name"] ["self", "name"] (defScope s_Console_grammar) := ⟨rfl, rfl, rfl, by decide +kernel, rfl, by decide +kernel, by decide +kernel⟩
theorem ok_cget (W : Wd K mg base) : FnP P w K mg base (L2.CX P w) 9 ("Console", some "grammar") ["self", "name"] (spGet K) := by
  obtain ⟨fd, G, b, kp⟩ := ok_chas (P := P) (w := w) W
  refine fnP_of (W.fn 17 _ rfl) sc_cget (fun _ _ _ _ _ _ us hl => match us, hl with | [_, _], _ => rfl) (fun vs H Q E h => ?_) (fun A outer s H vs Q E hr h => ?_)
  · obtain ⟨c, dx, dk, dp, v, d, kvs, rfl, _⟩ := h
    rfl
  · obtain ⟨c, dx, dk, dp, v, d, kvs, rfl, hc, hk, hd, hs, ht, q, e⟩ := h
    refine ⟨_, pss_cons (ps_if (pt_cmpR (op_notInC (W.meth 66) G hr b pass0) (pv 1) (pv 0) (by with_unfolding_all rfl)) (pss_one (ps_raise rfl (takes_of rfl rfl rfl rfl) (pmk_err W (x := "UnknownName") (by decide) (hr.mono (by omega)) (W.glo 35) (pv 1)))) pss_nil)
      (pss_one (ps_ret (pe_dget (Room.u1 hr) (pe_fld (pv 0) (by rfl)) (pv 1) (fun _ _ => rfl)))), ?_⟩
    refine ⟨v, rfl, .ref c, rfl, c, dx, cF dk dp, rfl, hc, c, dx, dk, dp, v, d, kvs, rfl, hc, hk, hd, hs, ht, fun H1 g1 => ⟨_, rfl, _, rfl, ?_⟩⟩
    cases eq : inD kvs d with
    | false => exact ⟨v, rfl, mkO_ok (W.exF (by decide)) (e eq _ g1)⟩
    | true =>
      have eq' := eq
      unfold inD at eq
      rw [Bool.and_eq_true] at eq
      cases d with
      | str n =>
        cases hd
        obtain ⟨g, hg⟩ := Option.isSome_iff_exists.mp eq.2
        exact ⟨.ref c, rfl, c, cC K, dx, cF dk dp, .ref dk, rfl, g1.ins hc, W.cls, W.nKept, rfl, .str n, rfl, dk, g, rfl, hg ▸ DGet.k (k := .inr n) (g1.dK hk), q eq' n g rfl hg _ g1⟩
      | _ => cases eq.2
end
end K74
/-! ## Kj -/
set_option Elab.async false
set_option linter.all false
set_option maxRecDepth 100000
set_option maxHeartbeats 4000000
namespace K74
open PySem PySem.Spec PyProof.Rows L2 He Kx Gx GxR
section
variable {P : Program} {w : World} {K : PySem.W.Frag} {mg : Str → Option Value} {base : Heap}
/-- the way out: an error x of v -/
def Out (K : PySem.W.Frag) (H : Hp) (x : Str) (v : V) (E : XK) : Prop := ∀ H', Gr H H' → ∀ a, H' a = none → E (.ref (ga K x)) (some a) (upd H' a (.xd [("value", v)]))
/-! ### Console.keep -/
def spKeep (K : PySem.W.Frag) : Sp := fun vs H Q E => ∃ (c dx dk dp : Addr) (v g : V) (nd gd : PyData) (kvs : List (Key × V)) (ps : List V), vs = [.ref c, v, g] ∧ H c = some (.ins (cC K) dx (cF dk dp)) ∧ H dk = some (.dK kvs) ∧ H dp = some (.lst ps) ∧ kvs.length < sizeLine ∧ ps.length < sizeLine ∧
  Dp K H v nd ∧ Dp K H g gd ∧ shortD nd ∧ szD gd ∧ Tbs K H ∧ (nameD nd = false → Out K H "InvalidName" v E) ∧ (nameD nd = true → gramD gd = false → Out K H "InvalidGrammar" g E) ∧
  (∀ n, nd = .str n → nameD nd = true → gramD gd = true → ∀ H', Gr H H' → ChgP K H' dk dp kvs ps n g Q)
theorem sc_ckeep : FnScope ["self", "name", "grammar"] ["self", "name", "grammar"] (defScope s_Console_keep) := ⟨rfl, rfl, rfl, by decide +kernel, rfl, by decide +kernel, by decide +kernel⟩
theorem ok_ckeep (W : Wd K mg base) : FnP P w K mg base (L2.CX P w) 16 ("Console", some "keep") ["self", "name", "grammar"] (spKeep K) := by
  refine fnP_of (W.fn 13 _ rfl) sc_ckeep (fun _ _ _ _ _ _ us hl => match us, hl with | [_, _, _], _ => rfl) (fun vs H Q E h => ?_) (fun A outer s H vs Q E hr h => ?_)
  · obtain ⟨c, dx, dk, dp, v, g, nd, gd, kvs, ps, rfl, _⟩ := h
    rfl
  · obtain ⟨c, dx, dk, dp, v, g, nd, gd, kvs, ps, rfl, hc, hk, hp, hl, hl2, hv, hg, hs, hz, ht, e1, e2, q⟩ := h
    refine ⟨_, pss_cons (ps_if (pt_not (pt_val (pe_callP (ok_is_name W) (hr.mono (by omega)) (W.glo 8) pass0 (pa_cons (pv 1) pa_nil)))) (pss_one (ps_raise rfl (takes_of rfl rfl rfl rfl) (pmk_err W (x := "InvalidName") (by decide) (hr.mono (by omega)) (W.glo 27) (pv 1)))) pss_nil)
      (pss_cons (ps_expr (pe_callP (ok_check W) hr (W.glo 7) (passes_call (takes_of rfl rfl rfl rfl) (fun _ _ _ _ h => h)) (pa_cons (pv 2) pa_nil)))
      (pss_one (ps_expr (pe_methP (ok_cchg W) W.cls (W.meth 58) (hr.mono (by omega)) pass0 (pv 0) (pa_cons (pv 1) (pa_cons (pv 2) pa_nil)))))), ?_⟩
    refine ⟨v, rfl, v, nd, rfl, hv, hs, ht, fun H1 g1 => ⟨_, rfl, ?_⟩⟩
    cases eq : nameD nd with
    | false => exact ⟨v, rfl, mkO_ok (W.exF (by decide)) (e1 eq _ g1)⟩
    | true =>
      refine ⟨g, rfl, g, gd, rfl, g1.dp hg, hz, ht.gr g1, fun eg H2 g2 => ?_, fun eg H2 g2 => e2 eq eg _ (g1.trans g2)⟩
      have g3 := g1.trans g2
      cases nd with
      | str n =>
        cases hv
        exact ⟨.ref c, rfl, c, dx, cF dk dp, rfl, g3.ins hc, rfl, .str n, rfl, g, rfl, c, dx, dk, dp, n, g, kvs, ps, rfl, g3.ins hc, g3.dK hk, g3.lst hp, hl, hl2, q n rfl eq eg _ g3⟩
      | _ => cases eq
/-! ### Console.drop -/
def spDrop (K : PySem.W.Frag) : Sp := fun vs H Q E => ∃ (c dx dk dp : Addr) (v : V) (nd : PyData) (kvs : List (Key × V)) (ps : List V), vs = [.ref c, v] ∧ H c = some (.ins (cC K) dx (cF dk dp)) ∧ H dk = some (.dK kvs) ∧ H dp = some (.lst ps) ∧ kvs.length < sizeLine ∧ ps.length < sizeLine ∧
  Dp K H v nd ∧ shortD nd ∧ Tbs K H ∧ (inD kvs nd = false → Out K H "UnknownName" v E) ∧ (∀ n, nd = .str n → inD kvs nd = true → ∀ H', Gr H H' → ChgP K H' dk dp kvs ps n .non Q)
theorem sc_cdrop : FnScope ["self", "name"] ["self", "name"] (defScope s_Console_drop) := ⟨rfl, rfl, rfl, by decide +kernel, rfl, by decide +kernel, by decide +kernel⟩
theorem ok_cdrop (W : Wd K mg base) : FnP P w K mg base (L2.CX P w) 10 ("Console", some "drop") ["self", "name"] (spDrop K) := by
  refine fnP_of (W.fn 14 _ rfl) sc_cdrop (fun _ _ _ _ _ _ us hl => match us, hl with | [_, _], _ => rfl) (fun vs H Q E h => ?_) (fun A outer s H vs Q E hr h => ?_)
  · obtain ⟨c, dx, dk, dp, v, nd, kvs, ps, rfl, _⟩ := h
    rfl
  · obtain ⟨c, dx, dk, dp, v, nd, kvs, ps, rfl, hc, hk, hp, hl, hl2, hv, hs, ht, e1, q⟩ := h
    refine ⟨_, pss_cons (ps_expr (pe_methP (ok_cget W) W.cls (W.meth 64) hr (passes_call (takes_of rfl rfl rfl rfl) (fun _ _ _ _ h => h)) (pv 0) (pa_cons (pv 1) pa_nil)))
      (pss_one (ps_expr (pe_methP (ok_cchg W) W.cls (W.meth 58) (hr.mono (by omega)) pass0 (pv 0) (pa_cons (pv 1) (pa_cons pe_non pa_nil))))), ?_⟩
    refine ⟨.ref c, rfl, c, dx, cF dk dp, rfl, hc, rfl, v, rfl, c, dx, dk, dp, v, nd, kvs, rfl, hc, hk, hv, hs, ht, fun ei n g en hvv H1 g1 => ?_, e1⟩
    subst en
    cases hv
    exact ⟨.ref c, rfl, c, dx, cF dk dp, rfl, g1.ins hc, rfl, .str n, rfl, c, dx, dk, dp, n, .non, kvs, ps, rfl, g1.ins hc, g1.dK hk, g1.lst hp, hl, hl2, q n rfl ei _ g1⟩
/-! ### Console.undo -/
def spUndo (K : PySem.W.Frag) : Sp := fun vs H Q _ => ∃ (c dx dk dp t : Addr) (n : Str) (g : V) (kvs : List (Key × V)) (ps : List V), vs = [.ref c] ∧ H c = some (.ins (cC K) dx (cF dk dp)) ∧ H dk = some (.dK kvs) ∧ H dp = some (.lst (ps ++ [.ref t])) ∧ H t = some (.tup [.str n, g]) ∧ kvs.length < sizeLine ∧
  Q .non (upd (upd H dp (.lst ps)) dk (.dK (newK kvs n g)))
theorem sc_cundo : FnScope ["self", "name", "elder"] ["self"] (defScope s_Console_undo) := ⟨rfl, rfl, rfl, by decide +kernel, rfl, by decide +kernel, by decide +kernel⟩
theorem ok_cundo (W : Wd K mg base) : FnP P w K mg base CX0 2 ("Console", some "undo") ["self"] (spUndo K) := by
  refine fnP_of (W.fn 15 _ rfl) sc_cundo (fun _ _ _ _ _ _ us hl => match us, hl with | [_], _ => rfl) (fun vs H Q E h => ?_) (fun A outer s H vs Q E hr h => ?_)
  · obtain ⟨c, dx, dk, dp, t, n, g, kvs, ps, rfl, _⟩ := h
    rfl
  · obtain ⟨c, dx, dk, dp, t, n, g, kvs, ps, rfl, hc, hk, hp, htt, hl, q⟩ := h
    refine ⟨_, PSs.nox (pss_cons (ps_if (pt_cmpR op_eq (pe_callB call_len (by rfl) W.nLen (by decide +kernel) (pa_cons (pe_fld (pv 0) (by rfl)) pa_nil)) pe_int (nomark _)) pss_never pss_nil)
      (pss_cons (ps_asg (pe_bm0 PySem.F.plainAttrs_list PySem.F.slot_list_pop PySem.F.type_list_pop mt_pop (pe_fld (pv 0) (by rfl))) (pg_tup (n := 2) rfl (pgs_cons (pg_name (i := 1) sc_cundo.nd rfl (.inl rfl)) (pgs_cons (pg_name (i := 2) sc_cundo.nd rfl (.inl rfl)) pgs_nil))))
      (pss_one (ps_expr (pe_methP (ok_cput W) W.cls (W.meth 59) (hr.mono (by omega)) pass0 (pv 0) (pa_cons (pv 1) (pa_cons (pv 2) pa_nil))))))), ?_⟩
    refine ⟨.ref c, rfl, c, cC K, dx, cF dk dp, .ref dp, rfl, hc, W.cls, W.nPast, rfl, .ref dp, _, rfl, .inl ⟨_, SqL.of hp, rfl⟩, rfl, _, rfl, ?_⟩
    rw [dec_int]
    have e : (((ps ++ [V.ref t]).length : Nat) : Int) = (ps.length : Int) + 1 := by simp
    have e2 : ((((ps ++ [V.ref t]).length : Nat) : Int) == 0) = false := by
      rw [beq_eq_false_iff_ne]
      omega
    rw [e2]
    have n1 : t ≠ dp := fun z => by rw [z, hp] at htt; cases htt
    have n2 : c ≠ dp := fun z => by rw [z, hp] at hc; cases hc
    have n3 : dk ≠ dp := fun z => by rw [z, hp] at hk; cases hk
    refine ⟨.ref c, rfl, c, cC K, dx, cF dk dp, .ref dp, rfl, hc, W.cls, W.nPast, rfl, .inl ⟨rfl, _, SqL.of hp⟩, dp, _, .ref t, rfl, rfl, hp, by simp, ?_⟩
    rw [List.dropLast_concat]
    refine ⟨t, _, rfl, SqT.of (by rw [upd_ne n1]; exact htt), rfl, .str n, _, rfl, g, _, rfl, rfl, ?_⟩
    exact ⟨.ref c, rfl, c, dx, cF dk dp, rfl, by rw [upd_ne n2]; exact hc, rfl, .str n, rfl, g, rfl, c, dx, dk, dp, n, g, kvs, rfl, by rw [upd_ne n2]; exact hc, by rw [upd_ne n3]; exact hk, hl, q⟩
/-! ### Console.names, Console.__len__ -/
def spNms (K : PySem.W.Frag) : Sp := fun vs H Q _ => ∃ (c dx dk dp : Addr) (kvs : List (Key × V)) (ks : List Str), vs = [.ref c] ∧ H c = some (.ins (cC K) dx (cF dk dp)) ∧ H dk = some (.dK kvs) ∧ kvs.map (·.1) = ks.map Sum.inr ∧ ks.length < 64 ∧
  ∀ ys p, ys.Perm ks → sortedS ys = true → H p = none → Q (.ref p) (upd H p (.lst (ys.map V.str)))
theorem sc_cnms : FnScope ["self"] ["self"] (defScope s_Console_names) := ⟨rfl, rfl, rfl, by decide +kernel, rfl, by decide +kernel, by decide +kernel⟩
theorem ok_cnms (W : Wd K mg base) : FnP P w K mg base CX0 1 ("Console", some "names") ["self"] (spNms K) := by
  refine fnP_of (W.fn 16 _ rfl) sc_cnms (fun _ _ _ _ _ _ us hl => match us, hl with | [_], _ => rfl) (fun vs H Q E h => ?_) (fun A outer s H vs Q E hr h => ?_)
  · obtain ⟨c, dx, dk, dp, kvs, ks, rfl, _⟩ := h
    rfl
  · obtain ⟨c, dx, dk, dp, kvs, ks, rfl, hc, hk, hks, h64, q⟩ := h
    refine ⟨_, PSs.nox (pss_one (ps_ret (pe_callB (call_sortedD rfl) (by rfl) (W.free 47) (by decide +kernel) (pa_cons (pe_fld (pv 0) (by rfl)) pa_nil)))), ?_⟩
    exact ⟨.ref c, rfl, c, cC K, dx, cF dk dp, .ref dk, rfl, hc, W.cls, W.nKept, rfl, dk, kvs, ks, rfl, .inl hk, hks, h64, q⟩
def spLen (K : PySem.W.Frag) : Sp := fun vs H Q _ => ∃ (c dx dk dp : Addr) (kvs : List (Key × V)), vs = [.ref c] ∧ H c = some (.ins (cC K) dx (cF dk dp)) ∧ H dk = some (.dK kvs) ∧ Q (.int kvs.length) H
theorem sc_clen : FnScope ["self"] ["self"] (defScope s_Console_dlen) := ⟨rfl, rfl, rfl, by decide +kernel, rfl, by decide +kernel, by decide +kernel⟩
theorem ok_clen (W : Wd K mg base) : FnP P w K mg base CX0 1 ("Console", some "__len__") ["self"] (spLen K) := by
  refine fnP_of (W.fn 18 _ rfl) sc_clen (fun _ _ _ _ _ _ us hl => match us, hl with | [_], _ => rfl) (fun vs H Q E h => ?_) (fun A outer s H vs Q E hr h => ?_)
  · obtain ⟨c, dx, dk, dp, kvs, rfl, _⟩ := h
    rfl
  · obtain ⟨c, dx, dk, dp, kvs, rfl, hc, hk, q⟩ := h
    refine ⟨_, PSs.nox (pss_one (ps_ret (pe_callB call_lenD (by rfl) W.nLen (by decide +kernel) (pa_cons (pe_fld (pv 0) (by rfl)) pa_nil)))), ?_⟩
    exact ⟨.ref c, rfl, c, cC K, dx, cF dk dp, .ref dk, rfl, hc, W.cls, W.nKept, rfl, dk, kvs, rfl, hk, q⟩
end
end K74
/-! ## Kk -/
set_option Elab.async false
set_option linter.all false
set_option maxRecDepth 100000
set_option maxHeartbeats 4000000
namespace K74
open PySem PySem.Spec PyProof.Rows L2 He Kx Gx GxR
/-! ### heaps that grow and change at a few places -/
structure GrX (S : List Addr) (H H' : Hp) : Prop where
  same : ∀ a o, a ∉ S → H a = some o → (∀ ps, o ≠ .tbl ps) → H' a = some o
  tab : ∀ P, TabG H P → TabG H' P
theorem Gr.grx {H H' : Hp} (g : Gr H H') (S : List Addr) : GrX S H H' := ⟨fun a o _ e n => g.same a o e n, g.tab⟩
theorem GrX.gr {H H' : Hp} (g : GrX [] H H') : Gr H H' := ⟨fun a o e n => g.same a o (by simp) e n, g.tab⟩
theorem GrX.trans {S : List Addr} {H H1 H2 : Hp} (a : GrX S H H1) (b : GrX S H1 H2) : GrX S H H2 := ⟨fun x o hx h n => b.same x o hx (a.same x o hx h n) n, fun P h => b.tab P (a.tab P h)⟩
theorem GrX.mono {S T : List Addr} {H H' : Hp} (g : GrX S H H') (h : ∀ a ∈ S, a ∈ T) : GrX T H H' := ⟨fun a o ha e n => g.same a o (fun z => ha (h a z)) e n, g.tab⟩
theorem GrX.upd {S : List Addr} {H : Hp} {a : Addr} {o u : HO} (ha : a ∈ S) (e : H a = some u) (n : ∀ ps, u ≠ .tbl ps) : GrX S H (upd H a o) := by
  refine ⟨fun b v hb hv _ => ?_, fun P ⟨ps, hp, t⟩ => ⟨ps, ?_, t⟩⟩
  · rw [upd_ne (fun z => hb (by rw [z]; exact ha))]
    exact hv
  · rw [upd_ne (fun z => by rw [z, e] at hp; exact n ps (Option.some.inj hp))]
    exact hp
theorem GrX.lst {S : List Addr} {H H' : Hp} (g : GrX S H H') {a : Addr} {xs : List V} (ha : a ∉ S) (h : H a = some (.lst xs)) : H' a = some (.lst xs) := g.same a _ ha h (fun ps q => by cases q)
theorem GrX.tup {S : List Addr} {H H' : Hp} (g : GrX S H H') {a : Addr} {xs : List V} (ha : a ∉ S) (h : H a = some (.tup xs)) : H' a = some (.tup xs) := g.same a _ ha h (fun ps q => by cases q)
theorem GrX.dK {S : List Addr} {H H' : Hp} (g : GrX S H H') {a : Addr} {xs : List (Key × V)} (ha : a ∉ S) (h : H a = some (.dK xs)) : H' a = some (.dK xs) := g.same a _ ha h (fun ps q => by cases q)
theorem GrX.ins {S : List Addr} {H H' : Hp} (g : GrX S H H') {a C dx : Addr} {fs : List (Str × V)} (ha : a ∉ S) (h : H a = some (.ins C dx fs)) : H' a = some (.ins C dx fs) := g.same a _ ha h (fun ps q => by cases q)
/-- neither a list nor a tuple stands there -/
def NoSq (S : List Addr) (H : Hp) : Prop := ∀ a ∈ S, (∀ xs, ¬ Rd H a (.lst xs)) ∧ ∀ xs, ¬ Rd H a (.tup xs)
theorem GrX.rd {S : List Addr} {H H' : Hp} (g : GrX S H H') {a : Addr} {u : HO} (ha : a ∉ S) (h : Rd H a u) (n : ∀ ps, u ≠ .tbl ps) : Rd H' a u := by
  rcases h with h | ⟨o, h⟩
  · exact .inl (g.same a _ ha h n)
  · exact .inr ⟨o, g.same a _ ha h (fun ps q => by cases q)⟩
mutual
theorem GrX.dp {S : List Addr} {K : PySem.W.Frag} {H H' : Hp} (g : GrX S H H') (hs : NoSq S H) : ∀ {v : V} {d : PyData}, Dp K H v d → Dp K H' v d
  | _, _, .non => .non
  | _, _, .bl b => .bl b
  | _, _, .int i => .int i
  | _, _, .str x => .str x
  | _, _, .lst h a => .lst (h.imp (fun z => g.rd (fun q => (hs _ q).1 _ z) z fun ps q => by cases q) id) (GrX.dpAll g hs a)
  | _, _, .tup h a => .tup (h.imp (fun z => g.rd (fun q => (hs _ q).2 _ z) z fun ps q => by cases q) id) (GrX.dpAll g hs a)
theorem GrX.dpAll {S : List Addr} {K : PySem.W.Frag} {H H' : Hp} (g : GrX S H H') (hs : NoSq S H) : ∀ {vs : List V} {ds : List PyData}, DpAll K H vs ds → DpAll K H' vs ds
  | _, _, .nil => .nil
  | _, _, .cons h a => .cons (GrX.dp g hs h) (GrX.dpAll g hs a)
end
theorem NoSq.dK {H : Hp} {a : Addr} {kvs : List (Key × V)} (h : H a = some (.dK kvs)) : NoSq [a] H := by
  intro b hb
  have e : b = a := by simpa using hb
  subst e
  refine ⟨fun xs z => ?_, fun xs z => ?_⟩
  · rcases z with z | ⟨o, z⟩
    · rw [h] at z; cases z
    · rw [h] at z; cases z
  · rcases z with z | ⟨o, z⟩
    · rw [h] at z; cases z
    · rw [h] at z; cases z
theorem Tbs.grx {K : PySem.W.Frag} {S : List Addr} {H H' : Hp} (t : Tbs K H) (g : GrX S H H') : Tbs K H' := fun p hp => g.tab _ (t p hp)
/-! ### the source of draws -/
abbrev srcF (cl : Addr) (at_ rest used turn : Int) : List (Key × V) := [(.inr "cells", .ref cl), (.inr "at", .int at_), (.inr "rest", .int rest), (.inr "used", .int used), (.inr "turn", .int turn)]
/-- the cells, their list, the source -/
structure Src (H : Hp) (s cl : Addr) (ns : List Int) : Prop where
  ex : ∃ at_ rest used turn : Int, H s = some (.dK (srcF cl at_ rest used turn)) ∧ 0 ≤ at_ ∧ 0 ≤ rest ∧ 0 ≤ used ∧ 0 ≤ turn
  cells : H cl = some (.lst (ns.map V.int))
  pos : 0 < ns.length
  short : ns.length ≤ 64
  nn : ∀ z ∈ ns, 0 ≤ z
theorem Src.ne {H : Hp} {s cl : Addr} {ns : List Int} (h : Src H s cl ns) : s ≠ cl := by
  obtain ⟨a, b, c, d, e, _⟩ := h.ex
  intro z
  rw [z, h.cells] at e
  cases e
theorem Src.noSq {H : Hp} {s cl : Addr} {ns : List Int} (h : Src H s cl ns) : NoSq [s] H := by
  obtain ⟨a, b, c, d, e, _⟩ := h.ex
  exact .dK e
theorem Src.gr {H H' : Hp} {s cl : Addr} {ns : List Int} (h : Src H s cl ns) (g : Gr H H') : Src H' s cl ns := by
  obtain ⟨a, b, c, d, e, r⟩ := h.ex
  exact ⟨⟨a, b, c, d, g.dK e, r⟩, g.lst h.cells, h.pos, h.short, h.nn⟩
theorem Src.put {H : Hp} {s cl : Addr} {ns : List Int} (h : Src H s cl ns) {at_ rest used turn : Int} (h1 : 0 ≤ at_) (h2 : 0 ≤ rest) (h3 : 0 ≤ used) (h4 : 0 ≤ turn) : Src (upd H s (.dK (srcF cl at_ rest used turn))) s cl ns :=
  ⟨⟨at_, rest, used, turn, upd_same, h1, h2, h3, h4⟩, by rw [upd_ne (Ne.symm h.ne)]; exact h.cells, h.pos, h.short, h.nn⟩
section
variable {H : Hp} {s cl : Addr} {a r u t : Int}
theorem src_gC (e : H s = some (.dK (srcF cl a r u t))) : DGet H s (.str "cells") (some (.ref cl)) := by
  have z := DGet.k (k := .inr "cells") e
  rwa [show valV (srcF cl a r u t) (.inr "cells") = some (.ref cl) by kernel_rfl] at z
theorem src_gA (e : H s = some (.dK (srcF cl a r u t))) : DGet H s (.str "at") (some (.int a)) := by
  have z := DGet.k (k := .inr "at") e
  rwa [show valV (srcF cl a r u t) (.inr "at") = some (.int a) by kernel_rfl] at z
theorem src_pA (e : H s = some (.dK (srcF cl a r u t))) (v : Int) : DPut H s (.str "at") (.int v) (upd H s (.dK (srcF cl v r u t))) := by
  have z := DPut.k (k := .inr "at") (v := .int v) e (by simp [sizeLine_eq])
  rwa [show putK (srcF cl a r u t) (.inr "at") (.int v) = srcF cl v r u t by kernel_rfl] at z
theorem src_gR (e : H s = some (.dK (srcF cl a r u t))) : DGet H s (.str "rest") (some (.int r)) := by
  have z := DGet.k (k := .inr "rest") e
  rwa [show valV (srcF cl a r u t) (.inr "rest") = some (.int r) by kernel_rfl] at z
theorem src_pR (e : H s = some (.dK (srcF cl a r u t))) (v : Int) : DPut H s (.str "rest") (.int v) (upd H s (.dK (srcF cl a v u t))) := by
  have z := DPut.k (k := .inr "rest") (v := .int v) e (by simp [sizeLine_eq])
  rwa [show putK (srcF cl a r u t) (.inr "rest") (.int v) = srcF cl a v u t by kernel_rfl] at z
theorem src_gU (e : H s = some (.dK (srcF cl a r u t))) : DGet H s (.str "used") (some (.int u)) := by
  have z := DGet.k (k := .inr "used") e
  rwa [show valV (srcF cl a r u t) (.inr "used") = some (.int u) by kernel_rfl] at z
theorem src_pU (e : H s = some (.dK (srcF cl a r u t))) (v : Int) : DPut H s (.str "used") (.int v) (upd H s (.dK (srcF cl a r v t))) := by
  have z := DPut.k (k := .inr "used") (v := .int v) e (by simp [sizeLine_eq])
  rwa [show putK (srcF cl a r u t) (.inr "used") (.int v) = srcF cl a r v t by kernel_rfl] at z
theorem src_gT (e : H s = some (.dK (srcF cl a r u t))) : DGet H s (.str "turn") (some (.int t)) := by
  have z := DGet.k (k := .inr "turn") e
  rwa [show valV (srcF cl a r u t) (.inr "turn") = some (.int t) by kernel_rfl] at z
theorem src_pT (e : H s = some (.dK (srcF cl a r u t))) (v : Int) : DPut H s (.str "turn") (.int v) (upd H s (.dK (srcF cl a r u v))) := by
  have z := DPut.k (k := .inr "turn") (v := .int v) e (by simp [sizeLine_eq])
  rwa [show putK (srcF cl a r u t) (.inr "turn") (.int v) = srcF cl a r u v by kernel_rfl] at z
end
section
variable {P : Program} {w : World} {K : PySem.W.Frag} {mg : Str → Option Value} {base : Heap}
/-! ### _law_onward -/
def spOn (K : PySem.W.Frag) : Sp := fun vs H Q _ => ∃ (s cl : Addr) (ns : List Int), vs = [.ref s] ∧ Src H s cl ns ∧ ∀ H', GrX [s] H H' → Src H' s cl ns → Q .non H'
theorem sc_on : FnScope ["source", "cells"] ["source"] (defScope s_law_onward) := ⟨rfl, rfl, rfl, by decide +kernel, rfl, by decide +kernel, by decide +kernel⟩
theorem ok_on (W : Wd K mg base) : FnP P w K mg base CX0 1 ("_law_onward", none) ["source"] (spOn K) := by
  refine fnP_of (W.fn 21 _ rfl) sc_on (fun _ _ _ _ _ _ us hl => match us, hl with | [_], _ => rfl) (fun vs H Q E h => ?_) (fun A outer s H vs Q E hr h => ?_)
  · obtain ⟨c, cl, ns, rfl, _⟩ := h
    rfl
  · obtain ⟨c, cl, ns, rfl, hS, q⟩ := h
    refine ⟨_, PSs.nox (pss_cons (ps_set (i := 1) sc_on.nd rfl (.inl rfl) (pe_dget (Room.u1 hr) (pv 0) pe_str (fun _ _ => rfl)))
      (pss_cons (ps_dput (Room.u1 hr) (pv 0) pe_str (pe_op op_add (pe_dget (Room.u1 hr) (pv 0) pe_str (fun _ _ => rfl)) pe_int) (by rfl))
      (pss_cons (ps_dput (Room.u1 hr) (pv 0) pe_str pe_int (by rfl))
      (pss_one (ps_dput (Room.u1 hr) (pv 0) pe_str (pe_ifExp (pt_cmpR op_lt (pe_dget (Room.u1 hr) (pv 0) pe_str (fun _ _ => rfl)) (pe_callB call_len (by rfl) W.nLen (by decide +kernel) (pa_cons (pv 1) pa_nil)) (nomark _)) (pe_ix ix_list (pv 1) (pe_dget (Room.u1 hr) (pv 0) pe_str (fun _ _ => rfl)) (fun _ _ => rfl)) pe_int) (by rfl)))))), ?_⟩
    obtain ⟨a, r, u, t, e, ha, hR, hu, htt⟩ := hS.ex
    have hS1 := hS.put (at_ := a + 1) (rest := r) (used := u) (turn := t) (by omega) hR hu htt
    refine ⟨.ref c, rfl, c, .ref cl, rfl, src_gC e, ?_⟩
    refine ⟨.ref c, rfl, c, .int a, rfl, src_gA e, a, 1, rfl, rfl, .ref c, rfl, c, _, rfl, src_pA e (a + 1), ?_⟩
    refine ⟨.ref c, rfl, c, _, rfl, src_pU upd_same 0, ?_⟩
    have e2 : upd (upd H c (.dK (srcF cl (a + 1) r u t))) c (.dK (srcF cl (a + 1) r 0 t)) = upd H c (.dK (srcF cl (a + 1) r 0 t)) := by
      funext b
      by_cases hb : b = c
      · rw [hb, upd_same, upd_same]
      · rw [upd_ne hb, upd_ne hb, upd_ne hb]
    rw [e2]
    have hS2 := hS.put (at_ := a + 1) (rest := r) (used := 0) (turn := t) (by omega) hR (by omega) htt
    have fin : ∀ v : Int, 0 ≤ v → Q .non (upd (upd H c (.dK (srcF cl (a + 1) r 0 t))) c (.dK (srcF cl (a + 1) v 0 t))) := fun v hv =>
      q _ ((GrX.upd (S := [c]) (by simp) e (fun ps q => by cases q)).trans (GrX.upd (by simp) upd_same (fun ps q => by cases q))) (hS2.put (by omega) hv (by omega) htt)
    refine ⟨.ref c, rfl, c, .int (a + 1), rfl, src_gA upd_same, .ref cl, rfl, .ref cl, (ns.map V.int).length, rfl, .inl ⟨_, SqL.of hS2.cells, rfl⟩, a + 1, ((ns.map V.int).length : Nat), rfl, rfl, _, rfl, ?_⟩
    by_cases hlt : a + 1 < ((ns.map V.int).length : Nat)
    · rw [decide_eq_true hlt]
      have hl2 : (ns.map V.int).length = ns.length := List.length_map ..
      obtain ⟨i, hi⟩ : ∃ i : Nat, a + 1 = i := ⟨(a + 1).toNat, by omega⟩
      have hi2 : i < ns.length := by omega
      have hx : (ns.map V.int)[i]? = some (.int ns[i]) := by rw [List.getElem?_map, List.getElem?_eq_getElem hi2]; rfl
      refine ⟨.ref cl, rfl, .ref c, rfl, c, .int (a + 1), rfl, src_gA upd_same, cl, _, a + 1, .int ns[i], rfl, rfl, SqL.of hS2.cells, hi ▸ atI_nat hx, ?_⟩
      exact ⟨.ref c, rfl, c, _, rfl, src_pR upd_same ns[i], fin _ (hS.nn _ (List.getElem_mem hi2))⟩
    · rw [decide_eq_false hlt]
      exact ⟨.ref c, rfl, c, _, rfl, src_pR upd_same 0, fin 0 (by omega)⟩
end
end K74
/-! ## Kl -/
set_option Elab.async false
set_option linter.all false
set_option maxRecDepth 100000
set_option maxHeartbeats 4000000
namespace K74
open PySem PySem.Spec PyProof.Rows L2 He Kx Gx GxR
theorem upd_twice {H : Hp} {a : Addr} {o u : HO} : upd (upd H a o) a u = upd H a u := by
  funext b
  by_cases hb : b = a
  · rw [hb, upd_same, upd_same]
  · rw [upd_ne hb, upd_ne hb, upd_ne hb]
theorem modI (x : Int) {m : Int} (h : 0 < m) : 0 ≤ x % m ∧ x % m < m := ⟨Int.emod_nonneg _ (by omega), Int.emod_lt_of_pos _ h⟩
theorem mulS {f : Int} (j : Int) {m : Int} (h : 0 ≤ f ∧ f < m) (hm : m ≤ 2 ^ 64) : CMul f j := .inl ⟨by omega, by omega⟩
section
variable {P : Program} {w : World} {K : PySem.W.Frag} {mg : Str → Option Value} {base : Heap}
/-! ### _law_draw -/
def spDraw (K : PySem.W.Frag) : Sp := fun vs H Q _ => ∃ (s cl : Addr) (ns : List Int) (m : Int), vs = [.ref s, .int m] ∧ 0 < m ∧ m < 1073741824 ∧ Src H s cl ns ∧ ∀ H' r, GrX [s] H H' → Src H' s cl ns → 0 ≤ r → r < m → Q (.int r) H'
theorem sc_draw : FnScope ["source", "limit", "cells", "at", "rest", "cell", "turn", "first", "second", "third"] ["source", "limit"] (defScope s_law_draw) := ⟨rfl, rfl, rfl, by decide +kernel, rfl, by decide +kernel, by decide +kernel⟩
theorem Wd.nAbs (W : Wd K mg base) : mg "abs" = none := W.free 46
theorem ok_draw (W : Wd K mg base) : FnP P w K mg base CX0 2 ("_law_draw", none) ["source", "limit"] (spDraw K) := by
  refine fnP_of (W.fn 22 _ rfl) sc_draw (fun _ _ _ _ _ _ us hl => match us, hl with | [_, _], _ => rfl) (fun vs H Q E h => ?_) (fun A outer s H vs Q E hr h => ?_)
  · obtain ⟨c, cl, ns, m, rfl, _⟩ := h
    rfl
  · obtain ⟨c, cl, ns, m, rfl, hm0, hm1', hS, q⟩ := h
    have nI := W.nInt
    refine ⟨_, PSs.nox (pss_cons (ps_par3 (i := 2) (j := 3) (l := 4) rfl sc_draw.nd rfl rfl rfl (by decide) (by decide) (by decide) rfl rfl rfl (pa_cons (pe_dget (Room.u1 hr) (pv 0) pe_str (fun _ _ => rfl))
          (pa_cons (pe_callTy call_int1 (by rfl) nI (by decide +kernel) (pa_cons (pe_dget (Room.u1 hr) (pv 0) pe_str (fun _ _ => rfl)) pa_nil)) (pa_cons (pe_callTy call_int1 (by rfl) nI (by decide +kernel) (pa_cons (pe_dget (Room.u1 hr) (pv 0) pe_str (fun _ _ => rfl)) pa_nil)) pa_nil))) (by rfl))
      (pss_cons (ps_set (i := 5) sc_draw.nd rfl (.inl rfl) (pe_ix ix_list (pv 2) (pe_op op_mod (pv 3) (pe_callB call_len (by rfl) W.nLen (by decide +kernel) (pa_cons (pv 2) pa_nil))) (fun _ _ => rfl)))
      (pss_cons (ps_dput (Room.u1 hr) (pv 0) pe_str (pe_op op_add (pe_dget (Room.u1 hr) (pv 0) pe_str (fun _ _ => rfl)) pe_int) (by rfl))
      (pss_cons (ps_if (pw_and (pt_cmpR op_lt (pv 3) (pe_callB call_len (by rfl) W.nLen (by decide +kernel) (pa_cons (pv 2) pa_nil)) (nomark _)) (pw_and1 (pt_cmpR op_ge (pv 5) (pe_op op_pow pe_int pe_int) (nomark _)))).pt
          (pss_cons (ps_dput (Room.u1 hr) (pv 0) pe_str (pe_op op_fdiv (pv 4) (pv 1)) (by rfl))
          (pss_cons (ps_if (pt_cmpR op_lt (pv 4) (pv 1) (nomark _)) (pss_one (ps_expr (pe_callP (ok_on W) hr (W.glo 10) pass0 (pa_cons (pv 0) pa_nil)))) pss_nil)
          (pss_one (ps_ret (pe_op op_mod (pv 4) (pv 1)))))) pss_nil)
      (pss_cons (ps_set (i := 6) sc_draw.nd rfl (.inl rfl) (pe_dget (Room.u1 hr) (pv 0) pe_str (fun _ _ => rfl)))
      (pss_cons (ps_dput (Room.u1 hr) (pv 0) pe_str (pe_op op_add (pe_dget (Room.u1 hr) (pv 0) pe_str (fun _ _ => rfl)) pe_int) (by rfl))
      (pss_cons (ps_if (pt_cmpR op_ge (pe_dget (Room.u1 hr) (pv 0) pe_str (fun _ _ => rfl)) pe_int (nomark _)) (pss_one (ps_expr (pe_callP (ok_on W) hr (W.glo 10) pass0 (pa_cons (pv 0) pa_nil)))) pss_nil)
      (pss_cons (ps_set (i := 7) sc_draw.nd rfl (.inl rfl) (pe_op op_mod (pe_callTy call_int1 (by rfl) nI (by decide +kernel) (pa_cons (pe_op op_add (pe_op op_add (pe_op op_mul (pe_op op_mod (pe_callTy call_int1 (by rfl) nI (by decide +kernel) (pa_cons (pv 5) pa_nil)) pe_int) pe_int) (pe_op op_mul (pv 6) pe_int)) pe_int) pa_nil)) pe_int))
      (pss_cons (ps_set (i := 8) sc_draw.nd rfl (.inl rfl) (pe_op op_mod (pe_callTy call_int1 (by rfl) nI (by decide +kernel) (pa_cons (pe_op op_add (pe_op op_add (pe_op op_mul (pv 7) (pv 7)) (pe_op op_mul (pv 6) pe_int)) pe_int) pa_nil)) pe_int))
      (pss_cons (ps_set (i := 9) sc_draw.nd rfl (.inl rfl) (pe_op op_mod (pe_callTy call_int1 (by rfl) nI (by decide +kernel) (pa_cons (pe_op op_add (pe_op op_add (pe_op op_mul (pv 8) (pv 8)) (pe_op op_mul (pv 7) pe_int)) pe_int) pa_nil)) pe_int))
      (pss_one (ps_ret (pe_op op_mod (pe_callTy call_int1 (by rfl) nI (by decide +kernel) (pa_cons (pe_op op_add (pe_op op_add (pe_op op_mul (pv 7) (pe_op op_pow pe_int pe_int)) (pe_op op_mul (pv 8) (pe_op op_pow pe_int pe_int))) (pv 9)) pa_nil)) (pv 1)))))))))))))), ?_⟩
    obtain ⟨a, r, u, t, e, ha, hR, hu, htt⟩ := hS.ex
    have hl2 : (ns.map V.int).length = ns.length := List.length_map ..
    have hp := hS.pos
    refine ⟨.ref c, rfl, c, .ref cl, rfl, src_gC e, .ref c, rfl, c, .int a, rfl, src_gA e, .inl ⟨a, rfl, .ref c, rfl, c, .int r, rfl, src_gR e, .inl ⟨r, rfl, _, _, _, rfl, ?_⟩⟩⟩
    have hm1 : 0 ≤ a % ((ns.map V.int).length : Int) := Int.emod_nonneg _ (by omega)
    have hm2 : a % ((ns.map V.int).length : Int) < ((ns.map V.int).length : Int) := Int.emod_lt_of_pos _ (by omega)
    obtain ⟨i, hi⟩ : ∃ i : Nat, a % ((ns.map V.int).length : Int) = i := ⟨(a % ((ns.map V.int).length : Int)).toNat, by omega⟩
    have hi2 : i < ns.length := by omega
    have hx : (ns.map V.int)[i]? = some (.int ns[i]) := by rw [List.getElem?_map, List.getElem?_eq_getElem hi2]; rfl
    have hcell : 0 ≤ ns[i] := hS.nn _ (List.getElem_mem hi2)
    refine ⟨.ref cl, rfl, .int a, rfl, .ref cl, rfl, .ref cl, (ns.map V.int).length, rfl, .inl ⟨_, SqL.of hS.cells, rfl⟩, a, ((ns.map V.int).length : Nat), rfl, rfl, by omega, cl, _, _, .int ns[i], rfl, rfl, SqL.of hS.cells, hi ▸ atI_nat hx, ?_⟩
    refine ⟨.ref c, rfl, c, .int t, rfl, src_gT e, t, 1, rfl, rfl, .ref c, rfl, c, _, rfl, src_pT e (t + 1), ?_⟩
    have g1 : GrX [c] H (upd H c (.dK (srcF cl a r u (t + 1)))) := GrX.upd (S := [c]) (by simp) e (fun ps q => by cases q)
    have hS1 := hS.put (at_ := a) (rest := r) (used := u) (turn := t + 1) ha hR hu (by omega)
    have e1 : upd H c (.dK (srcF cl a r u (t + 1))) c = some (.dK (srcF cl a r u (t + 1))) := upd_same
    generalize upd H c (.dK (srcF cl a r u (t + 1))) = H1 at g1 hS1 e1
    refine ⟨.int a, rfl, .ref cl, rfl, .ref cl, (ns.map V.int).length, rfl, .inl ⟨_, SqL.of hS1.cells, rfl⟩, a, ((ns.map V.int).length : Nat), rfl, rfl, _, rfl, ?_⟩
    by_cases h1 : a < ((ns.map V.int).length : Int)
    · rw [decide_eq_true h1]
      refine ⟨.int ns[i], rfl, 10, 18, rfl, rfl, ⟨by decide, by decide, by decide⟩, ns[i], (10 : Int) ^ (18 : Int).toNat, rfl, rfl, _, rfl, ?_⟩
      by_cases h2 : (10 : Int) ^ (18 : Int).toNat ≤ ns[i]
      · rw [decide_eq_true h2]
        have hq : 0 ≤ r / m := Int.ediv_nonneg hR (by omega)
        refine ⟨.int r, rfl, .int m, rfl, r, m, rfl, rfl, ⟨hm0, hm1'⟩, .ref c, rfl, c, _, rfl, src_pR e1 (r / m), ?_⟩
        have g2 : GrX [c] H (upd H1 c (.dK (srcF cl a (r / m) u (t + 1)))) := g1.trans (GrX.upd (S := [c]) (by simp) e1 (fun ps q => by cases q))
        have hS2 := hS1.put (at_ := a) (rest := r / m) (used := u) (turn := t + 1) ha hq hu (by omega)
        have fr : ∀ H', GrX [c] H H' → Src H' c cl ns → Q (.int (r % m)) H' := fun H' g h => q H' (r % m) g h (Int.emod_nonneg _ (by omega)) (Int.emod_lt_of_pos _ hm0)
        refine ⟨.int r, rfl, .int m, rfl, r, m, rfl, rfl, _, rfl, ?_⟩
        by_cases h3 : r < m
        · rw [decide_eq_true h3]
          refine ⟨.ref c, rfl, c, cl, ns, rfl, hS2, fun H3 g3 h3 => ?_⟩
          exact ⟨.int r, rfl, .int m, rfl, r, m, rfl, rfl, hm0, fr H3 (g2.trans g3) h3⟩
        · rw [decide_eq_false h3]
          exact ⟨.int r, rfl, .int m, rfl, r, m, rfl, rfl, hm0, fr _ g2 hS2⟩
      · rw [decide_eq_false h2]
        refine ⟨.ref c, rfl, c, .int (t + 1), rfl, src_gT e1, ?_⟩
        refine ⟨.ref c, rfl, c, .int u, rfl, src_gU e1, u, 1, rfl, rfl, .ref c, rfl, c, _, rfl, src_pU e1 (u + 1), ?_⟩
        have g2 : GrX [c] H (upd H1 c (.dK (srcF cl a r (u + 1) (t + 1)))) := g1.trans (GrX.upd (S := [c]) (by simp) e1 (fun ps q => by cases q))
        have hS2 := hS1.put (at_ := a) (rest := r) (used := u + 1) (turn := t + 1) ha hR (by omega) (by omega)
        refine ⟨.ref c, rfl, c, .int (u + 1), rfl, src_gU upd_same, u + 1, 5, rfl, rfl, _, rfl, ?_⟩
        by_cases h5 : 5 ≤ u + 1
        · rw [decide_eq_true h5]
          refine ⟨.ref c, rfl, c, cl, ns, rfl, hS2, fun H3 g3 hS3 => ?_⟩
          refine ⟨.int ns[i], rfl, .inl ⟨ns[i], rfl, ns[i], 2147483629, rfl, rfl, (show (0 : Int) < 2147483629 by decide), _, 16807, rfl, rfl, .inr ⟨by decide, by decide⟩, .int (t + 1), rfl, t + 1, 7919, rfl, rfl, .inr ⟨by decide, by decide⟩, _, _, rfl, rfl, _, 12345, rfl, rfl, .inl ⟨_, rfl, _, 2147483647, rfl, rfl, (show (0 : Int) < 2147483647 by decide), ?_⟩⟩⟩
          have p1 := modI (ns[i] % 2147483629 * 16807 + (t + 1) * 7919 + 12345) (m := 2147483647) (by decide)
          refine ⟨_, rfl, _, rfl, _, _, rfl, rfl, mulS _ p1 (by decide), .int (t + 1), rfl, t + 1, 104729, rfl, rfl, .inr ⟨by decide, by decide⟩, _, _, rfl, rfl, _, 31, rfl, rfl, .inl ⟨_, rfl, _, 2147483587, rfl, rfl, (show (0 : Int) < 2147483587 by decide), ?_⟩⟩
          have p2 := modI ((ns[i] % 2147483629 * 16807 + (t + 1) * 7919 + 12345) % 2147483647 * ((ns[i] % 2147483629 * 16807 + (t + 1) * 7919 + 12345) % 2147483647) + (t + 1) * 104729 + 31) (m := 2147483587) (by decide)
          refine ⟨_, rfl, _, rfl, _, _, rfl, rfl, mulS _ p2 (by decide), _, rfl, _, 48271, rfl, rfl, .inr ⟨by decide, by decide⟩, _, _, rfl, rfl, _, 7, rfl, rfl, .inl ⟨_, rfl, _, 999999937, rfl, rfl, (show (0 : Int) < 999999937 by decide), ?_⟩⟩
          refine ⟨_, rfl, 10, 18, rfl, rfl, ⟨by decide, by decide, by decide⟩, _, _, rfl, rfl, mulS _ p1 (by decide), _, rfl, 10, 9, rfl, rfl, ⟨by decide, by decide, by decide⟩, _, _, rfl, rfl, mulS _ p2 (by decide), _, _, rfl, rfl, _, rfl, _, _, rfl, rfl, .inl ⟨_, rfl, .int m, rfl, _, m, rfl, rfl, hm0, ?_⟩⟩
          exact q _ _ (g2.trans g3) hS3 (Int.emod_nonneg _ (by omega)) (Int.emod_lt_of_pos _ hm0)
        · rw [decide_eq_false h5]
          refine ⟨.int ns[i], rfl, .inl ⟨ns[i], rfl, ns[i], 2147483629, rfl, rfl, (show (0 : Int) < 2147483629 by decide), _, 16807, rfl, rfl, .inr ⟨by decide, by decide⟩, .int (t + 1), rfl, t + 1, 7919, rfl, rfl, .inr ⟨by decide, by decide⟩, _, _, rfl, rfl, _, 12345, rfl, rfl, .inl ⟨_, rfl, _, 2147483647, rfl, rfl, (show (0 : Int) < 2147483647 by decide), ?_⟩⟩⟩
          have p1 := modI (ns[i] % 2147483629 * 16807 + (t + 1) * 7919 + 12345) (m := 2147483647) (by decide)
          refine ⟨_, rfl, _, rfl, _, _, rfl, rfl, mulS _ p1 (by decide), .int (t + 1), rfl, t + 1, 104729, rfl, rfl, .inr ⟨by decide, by decide⟩, _, _, rfl, rfl, _, 31, rfl, rfl, .inl ⟨_, rfl, _, 2147483587, rfl, rfl, (show (0 : Int) < 2147483587 by decide), ?_⟩⟩
          have p2 := modI ((ns[i] % 2147483629 * 16807 + (t + 1) * 7919 + 12345) % 2147483647 * ((ns[i] % 2147483629 * 16807 + (t + 1) * 7919 + 12345) % 2147483647) + (t + 1) * 104729 + 31) (m := 2147483587) (by decide)
          refine ⟨_, rfl, _, rfl, _, _, rfl, rfl, mulS _ p2 (by decide), _, rfl, _, 48271, rfl, rfl, .inr ⟨by decide, by decide⟩, _, _, rfl, rfl, _, 7, rfl, rfl, .inl ⟨_, rfl, _, 999999937, rfl, rfl, (show (0 : Int) < 999999937 by decide), ?_⟩⟩
          refine ⟨_, rfl, 10, 18, rfl, rfl, ⟨by decide, by decide, by decide⟩, _, _, rfl, rfl, mulS _ p1 (by decide), _, rfl, 10, 9, rfl, rfl, ⟨by decide, by decide, by decide⟩, _, _, rfl, rfl, mulS _ p2 (by decide), _, _, rfl, rfl, _, rfl, _, _, rfl, rfl, .inl ⟨_, rfl, .int m, rfl, _, m, rfl, rfl, hm0, ?_⟩⟩
          exact q _ _ g2 hS2 (Int.emod_nonneg _ (by omega)) (Int.emod_lt_of_pos _ hm0)
    · rw [decide_eq_false h1]
      refine ⟨.ref c, rfl, c, .int (t + 1), rfl, src_gT e1, ?_⟩
      refine ⟨.ref c, rfl, c, .int u, rfl, src_gU e1, u, 1, rfl, rfl, .ref c, rfl, c, _, rfl, src_pU e1 (u + 1), ?_⟩
      have g2 : GrX [c] H (upd H1 c (.dK (srcF cl a r (u + 1) (t + 1)))) := g1.trans (GrX.upd (S := [c]) (by simp) e1 (fun ps q => by cases q))
      have hS2 := hS1.put (at_ := a) (rest := r) (used := u + 1) (turn := t + 1) ha hR (by omega) (by omega)
      refine ⟨.ref c, rfl, c, .int (u + 1), rfl, src_gU upd_same, u + 1, 5, rfl, rfl, _, rfl, ?_⟩
      by_cases h5 : 5 ≤ u + 1
      · rw [decide_eq_true h5]
        refine ⟨.ref c, rfl, c, cl, ns, rfl, hS2, fun H3 g3 hS3 => ?_⟩
        refine ⟨.int ns[i], rfl, .inl ⟨ns[i], rfl, ns[i], 2147483629, rfl, rfl, (show (0 : Int) < 2147483629 by decide), _, 16807, rfl, rfl, .inr ⟨by decide, by decide⟩, .int (t + 1), rfl, t + 1, 7919, rfl, rfl, .inr ⟨by decide, by decide⟩, _, _, rfl, rfl, _, 12345, rfl, rfl, .inl ⟨_, rfl, _, 2147483647, rfl, rfl, (show (0 : Int) < 2147483647 by decide), ?_⟩⟩⟩
        have p1 := modI (ns[i] % 2147483629 * 16807 + (t + 1) * 7919 + 12345) (m := 2147483647) (by decide)
        refine ⟨_, rfl, _, rfl, _, _, rfl, rfl, mulS _ p1 (by decide), .int (t + 1), rfl, t + 1, 104729, rfl, rfl, .inr ⟨by decide, by decide⟩, _, _, rfl, rfl, _, 31, rfl, rfl, .inl ⟨_, rfl, _, 2147483587, rfl, rfl, (show (0 : Int) < 2147483587 by decide), ?_⟩⟩
        have p2 := modI ((ns[i] % 2147483629 * 16807 + (t + 1) * 7919 + 12345) % 2147483647 * ((ns[i] % 2147483629 * 16807 + (t + 1) * 7919 + 12345) % 2147483647) + (t + 1) * 104729 + 31) (m := 2147483587) (by decide)
        refine ⟨_, rfl, _, rfl, _, _, rfl, rfl, mulS _ p2 (by decide), _, rfl, _, 48271, rfl, rfl, .inr ⟨by decide, by decide⟩, _, _, rfl, rfl, _, 7, rfl, rfl, .inl ⟨_, rfl, _, 999999937, rfl, rfl, (show (0 : Int) < 999999937 by decide), ?_⟩⟩
        refine ⟨_, rfl, 10, 18, rfl, rfl, ⟨by decide, by decide, by decide⟩, _, _, rfl, rfl, mulS _ p1 (by decide), _, rfl, 10, 9, rfl, rfl, ⟨by decide, by decide, by decide⟩, _, _, rfl, rfl, mulS _ p2 (by decide), _, _, rfl, rfl, _, rfl, _, _, rfl, rfl, .inl ⟨_, rfl, .int m, rfl, _, m, rfl, rfl, hm0, ?_⟩⟩
        exact q _ _ (g2.trans g3) hS3 (Int.emod_nonneg _ (by omega)) (Int.emod_lt_of_pos _ hm0)
      · rw [decide_eq_false h5]
        refine ⟨.int ns[i], rfl, .inl ⟨ns[i], rfl, ns[i], 2147483629, rfl, rfl, (show (0 : Int) < 2147483629 by decide), _, 16807, rfl, rfl, .inr ⟨by decide, by decide⟩, .int (t + 1), rfl, t + 1, 7919, rfl, rfl, .inr ⟨by decide, by decide⟩, _, _, rfl, rfl, _, 12345, rfl, rfl, .inl ⟨_, rfl, _, 2147483647, rfl, rfl, (show (0 : Int) < 2147483647 by decide), ?_⟩⟩⟩
        have p1 := modI (ns[i] % 2147483629 * 16807 + (t + 1) * 7919 + 12345) (m := 2147483647) (by decide)
        refine ⟨_, rfl, _, rfl, _, _, rfl, rfl, mulS _ p1 (by decide), .int (t + 1), rfl, t + 1, 104729, rfl, rfl, .inr ⟨by decide, by decide⟩, _, _, rfl, rfl, _, 31, rfl, rfl, .inl ⟨_, rfl, _, 2147483587, rfl, rfl, (show (0 : Int) < 2147483587 by decide), ?_⟩⟩
        have p2 := modI ((ns[i] % 2147483629 * 16807 + (t + 1) * 7919 + 12345) % 2147483647 * ((ns[i] % 2147483629 * 16807 + (t + 1) * 7919 + 12345) % 2147483647) + (t + 1) * 104729 + 31) (m := 2147483587) (by decide)
        refine ⟨_, rfl, _, rfl, _, _, rfl, rfl, mulS _ p2 (by decide), _, rfl, _, 48271, rfl, rfl, .inr ⟨by decide, by decide⟩, _, _, rfl, rfl, _, 7, rfl, rfl, .inl ⟨_, rfl, _, 999999937, rfl, rfl, (show (0 : Int) < 999999937 by decide), ?_⟩⟩
        refine ⟨_, rfl, 10, 18, rfl, rfl, ⟨by decide, by decide, by decide⟩, _, _, rfl, rfl, mulS _ p1 (by decide), _, rfl, 10, 9, rfl, rfl, ⟨by decide, by decide, by decide⟩, _, _, rfl, rfl, mulS _ p2 (by decide), _, _, rfl, rfl, _, rfl, _, _, rfl, rfl, .inl ⟨_, rfl, .int m, rfl, _, m, rfl, rfl, hm0, ?_⟩⟩
        exact q _ _ g2 hS2 (Int.emod_nonneg _ (by omega)) (Int.emod_lt_of_pos _ hm0)
end
end K74
/-! ## Km -/
set_option Elab.async false
set_option linter.all false
set_option maxRecDepth 100000
set_option maxHeartbeats 4000000
namespace K74
open PySem PySem.Spec PyProof.Rows L2 He Kx Gx GxR
theorem dpAll_ints {K : PySem.W.Frag} {H : Hp} : ∀ ds : List Int, DpAll K H (ds.map V.int) (ds.map PyData.int)
  | [] => .nil
  | d :: ds => .cons (.int d) (dpAll_ints ds)
theorem grx_new {S : List Addr} {H H1 : Hp} {f : Addr} {o : HO} (g : GrX S H H1) (hf : H f = none) : GrX S H (upd H1 f o) := by
  refine ⟨fun a u ha hu n => ?_, fun P hP => ?_⟩
  · rw [upd_ne (ne_of_none hu hf)]
    exact g.same a u ha hu n
  · obtain ⟨ps, e, _⟩ := hP
    obtain ⟨qs, e2, t2⟩ := g.tab P ⟨ps, e, by assumption⟩
    exact ⟨qs, by rw [upd_ne (ne_of_none e hf)]; exact e2, t2⟩
theorem grx_new' {S : List Addr} {H H1 : Hp} {f : Addr} {o : HO} (g : GrX S H H1) (hf : H1 f = none) : GrX S H (upd H1 f o) := by
  refine ⟨fun a u ha hu n => ?_, fun P hP => ?_⟩
  · have e := g.same a u ha hu n
    rw [upd_ne (ne_of_none e hf)]
    exact e
  · obtain ⟨qs, e2, t2⟩ := g.tab P hP
    exact ⟨qs, by rw [upd_ne (ne_of_none e2 hf)]; exact e2, t2⟩
theorem rep_ints (k : Nat) : (List.replicate k [V.int 0]).flatten = (List.replicate k (0 : Int)).map V.int := by
  induction k with
  | zero => rfl
  | succ k ih => rw [List.replicate_succ, List.flatten_cons, ih, List.replicate_succ, List.map_cons]; rfl
theorem grx_refl (S : List Addr) (H : Hp) : GrX S H H := ⟨fun _ _ _ h _ => h, fun _ h => h⟩
theorem src_new {H : Hp} {s cl : Addr} {ns : List Int} (h : Src H s cl ns) {p : Addr} {o : HO} (hs : s ≠ p) (hc : cl ≠ p) : Src (upd H p o) s cl ns := by
  obtain ⟨a, b, c, d, e, r⟩ := h.ex
  exact ⟨⟨a, b, c, d, by rw [upd_ne hs]; exact e, r⟩, by rw [upd_ne hc]; exact h.cells, h.pos, h.short, h.nn⟩
theorem Src.some {H : Hp} {s cl : Addr} {ns : List Int} (h : Src H s cl ns) {p : Addr} (hp : H p = none) : s ≠ p ∧ cl ≠ p := by
  obtain ⟨a, b, c, d, e, r⟩ := h.ex
  exact ⟨ne_of_none e hp, ne_of_none h.cells hp⟩
section
variable {P : Program} {w : World} {K : PySem.W.Frag} {mg : Str → Option Value} {base : Heap}
theorem Wd.nTuple (W : Wd K mg base) : mg "tuple" = none := W.free 42
/-! ### _law_spread -/
/-- a tuple of k numbers from 0 on -/
def NatsT (K : PySem.W.Frag) (H : Hp) (v : V) (k : Nat) (ds : List Int) : Prop := Dp K H v (.tuple (ds.map .int)) ∧ ds.length = k ∧ ∀ z ∈ ds, 0 ≤ z ∧ z ≤ 99
def spSpread (K : PySem.W.Frag) : Sp := fun vs H Q _ => ∃ (s cl : Addr) (ns : List Int) (k t : Nat), vs = [.ref s, .int k, .int t] ∧ 0 < k ∧ k < 100 ∧ t < 100 ∧ Src H s cl ns ∧ ∀ H' p ds, GrX [s] H H' → Src H' s cl ns → NatsT K H' (.ref p) k ds → Q (.ref p) H'
theorem sc_spread : FnScope ["source", "size", "total", "found", "turn", "at"] ["source", "size", "total"] (defScope s_law_spread) := ⟨rfl, rfl, rfl, by decide +kernel, rfl, by decide +kernel, by decide +kernel⟩
theorem ok_spread (W : Wd K mg base) : FnP P w K mg base CX0 3 ("_law_spread", none) ["source", "size", "total"] (spSpread K) := by
  refine fnP_of (W.fn 24 _ rfl) sc_spread (fun _ _ _ _ _ _ us hl => match us, hl with | [_, _, _], _ => rfl) (fun vs H Q E h => ?_) (fun A outer s H vs Q E hr h => ?_)
  · obtain ⟨c, cl, ns, k, t, rfl, _⟩ := h
    rfl
  · obtain ⟨c, cl, ns, k, t, rfl, hk, hk2, ht, hS, q⟩ := h
    refine ⟨_, PSs.nox (pss_cons (ps_set (i := 3) sc_spread.nd rfl (.inl rfl) (pe_op op_rep (pe_lst (pa_cons pe_int pa_nil)) (pv 1)))
      (pss_cons (ps_for PassesOwn.never rfl (pi_range1 (by rfl) W.nRange (pa_cons (pv 2) pa_nil)) (pg_name (i := 4) sc_spread.nd rfl (.inl rfl))
        (pss_cons (ps_set (i := 5) sc_spread.nd rfl (.inl rfl) (pe_callP (ok_draw W) hr (W.glo 11) pass0 (pa_cons (pv 0) (pa_cons (pv 1) pa_nil))))
        (pss_one (ps_asg (pe_op op_add (pe_ix ix_list (pv 3) (pv 5) (fun _ _ => rfl)) pe_int) (pg_sub (pv 3) (pv 5) set_list)))))
      (pss_one (ps_ret (pe_callTy call_tuple_of (by rfl) W.nTuple (by decide +kernel) (pa_cons (pv 3) pa_nil)))))), ?_⟩
    refine ⟨by simp [sizeLine_eq], fun l0 hl0 => ⟨.int k, rfl, l0, k, [.int 0], rfl, rfl, upd_same, by omega, by omega, by simp [sizeLine_eq]; omega, fun f hf => ?_⟩⟩
    have n1 : f ≠ l0 := fun z => by rw [z, upd_same] at hf; cases hf
    rw [upd_ne n1] at hf
    obtain ⟨s1, s2⟩ := hS.some hl0
    obtain ⟨s3, s4⟩ := hS.some hf
    have g0 : GrX [c] H (upd (upd H l0 (.lst [.int 0])) f (.lst (List.replicate (k : Int).toNat [V.int 0]).flatten)) := grx_new (grx_new (grx_refl _ _) hl0) hf
    have hS0 : Src (upd (upd H l0 (.lst [.int 0])) f (.lst (List.replicate (k : Int).toNat [V.int 0]).flatten)) c cl ns := src_new (src_new hS s1 s2) s3 s4
    have e0 : (List.replicate (k : Int).toNat [V.int 0]).flatten = (List.replicate k (0 : Int)).map V.int := by
      rw [Int.toNat_natCast, rep_ints]
    have f0 : (upd (upd H l0 (.lst [.int 0])) f (.lst (List.replicate (k : Int).toNat [V.int 0]).flatten)) f = some (.lst ((List.replicate k (0 : Int)).map V.int)) := by rw [upd_same, e0]
    generalize upd (upd H l0 (.lst [.int 0])) f (.lst (List.replicate (k : Int).toNat [V.int 0]).flatten) = H0 at g0 hS0 f0
    refine ⟨.int t, rfl, t, rfl, by omega, by omega, ?_⟩
    refine for_range (lo := 0) (n := (t : Int).toNat) (fun i σ H1 => ∃ (x4 x5 : Option V) (ds : List Int), σ = [some (.ref c), some (.int k), some (.int t), some (.ref f), x4, x5] ∧ GrX [c] H H1 ∧ Src H1 c cl ns ∧ H1 f = some (.lst (ds.map V.int)) ∧ ds.length = k ∧ ∀ z ∈ ds, 0 ≤ z ∧ z ≤ (i : Int))
      ⟨none, none, _, rfl, g0, hS0, f0, by simp, fun z hz => by rw [List.eq_of_mem_replicate hz]; exact ⟨Int.le_refl 0, Int.le_refl 0⟩⟩ (fun i σ H1 hi hP => ?_) (fun σ H1 hP => ?_)
    · obtain ⟨x4, x5, ds, rfl, g1, hS1, hf1, hl, hz⟩ := hP
      refine ⟨.ref c, rfl, .int k, rfl, c, cl, ns, k, rfl, by omega, by omega, hS1, fun H2 r g2 hS2 h0 h1 => ?_⟩
      have nf : f ≠ c := Ne.symm s3
      have hf2 : H2 f = some (.lst (ds.map V.int)) := g2.lst (by simp [nf]) hf1
      obtain ⟨j, hj⟩ : ∃ j : Nat, r = j := ⟨r.toNat, by omega⟩
      subst hj
      have hj2 : j < ds.length := by omega
      have hx : (ds.map V.int)[j]? = some (.int ds[j]) := by rw [List.getElem?_map, List.getElem?_eq_getElem hj2]; rfl
      refine ⟨.ref f, rfl, .int j, rfl, f, _, j, .int ds[j], rfl, rfl, SqL.of hf2, atI_nat hx, ds[j], 1, rfl, rfl, .ref f, rfl, .int j, rfl, f, _, j, j, rfl, rfl, hf2, by unfold ixN; rw [if_pos (by omega), if_pos (by rw [List.length_map]; omega)]; simp, ?_⟩
      refine ⟨_, _, ds.set j (ds[j] + 1), rfl, grx_new (g1.trans g2) hf, src_new hS2 s3 s4, by rw [upd_same, List.map_set], by simp [hl], fun z hz2 => ?_⟩
      rcases List.mem_or_eq_of_mem_set hz2 with hz3 | hz3
      · have := hz z hz3
        omega
      · rw [hz3]
        have := hz _ (List.getElem_mem hj2)
        omega
    · obtain ⟨x4, x5, ds, rfl, g1, hS1, hf1, hl, hz⟩ := hP
      refine ⟨.ref f, rfl, f, _, rfl, .inl ⟨SqL.of hf1, fun p hp => ?_⟩⟩
      obtain ⟨s5, s6⟩ := hS1.some hp
      exact q _ p ds (grx_new' g1 hp) (src_new hS1 s5 s6) ⟨.tup (SqT.of upd_same) (dpAll_ints ds), hl, fun z hz3 => by have := hz z hz3; omega⟩
end
end K74
/-! ## Kn -/
set_option Elab.async false
set_option linter.all false
set_option maxRecDepth 100000
set_option maxHeartbeats 4000000
namespace K74
open PySem PySem.Spec PyProof.Rows L2 He Kx Gx GxR
theorem cut63 {ns : List Int} (h : ns.length ≤ 63) : cutV (ns.map V.int) none (some 63) = ns.map V.int := by
  unfold cutV HT.sIx
  have e : (ns.map V.int).length = ns.length := List.length_map ..
  rw [List.take_of_length_le]
  · simp
  · simp
    omega
section
variable {P : Program} {w : World} {K : PySem.W.Frag} {mg : Str → Option Value} {base : Heap}
/-! ### _law_source -/
/-- the cells of a script -/
def cellsOf (ns : List Int) : List Int := ns.map (fun z => if z < 0 then -z else z) ++ [(ns.length : Int)]
def spSource (K : PySem.W.Frag) : Sp := fun vs H Q _ => ∃ (a : Addr) (ns : List Int), vs = [.ref a] ∧ SqL K H a (ns.map V.int) ∧ ns.length ≤ 63 ∧ ∀ H' s cl, Gr H H' → Src H' s cl (cellsOf ns) → Q (.ref s) H'
theorem sc_source : FnScope ["script", "cells", "cell"] ["script"] (defScope s_law_source) := ⟨rfl, rfl, rfl, by decide +kernel, rfl, by decide +kernel, by decide +kernel⟩
theorem ok_source (W : Wd K mg base) : FnP P w K mg base CX0 1 ("_law_source", none) ["script"] (spSource K) := by
  refine fnP_of (W.fn 20 _ rfl) sc_source (fun _ _ _ _ _ _ us hl => match us, hl with | [_], _ => rfl) (fun vs H Q E h => ?_) (fun A outer s H vs Q E hr h => ?_)
  · obtain ⟨a, ns, rfl, _⟩ := h
    rfl
  · obtain ⟨a, ns, rfl, hs, hl, q⟩ := h
    refine ⟨_, PSs.nox (pss_cons (ps_set (i := 1) sc_source.nd rfl (.inl rfl) (pe_op op_cat (pe_lc (own := [("cell", 2)]) (g := gName 2) rfl sc_source.nd (pi_list (pe_slice sl_list (pv 0) po_none (po_some pe_int))) (blkOk_by (by kernel_rfl)) (fun _ _ _ _ _ => pg_name (i := 2) sc_source.nd rfl (Or.inl rfl)) (fun _ _ _ _ _ => pts_nil)
        (fun _ _ _ _ _ => pe_callB call_abs (by rfl) W.nAbs (by decide +kernel) (pa_cons (pe_callTy call_int1 (by rfl) W.nInt (by decide +kernel) (pa_cons (pv 2) pa_nil)) pa_nil)))
        (pe_lst (pa_cons (pe_callB call_len (by rfl) W.nLen (by decide +kernel) (pa_cons (pe_slice sl_list (pv 0) po_none (po_some pe_int)) pa_nil)) pa_nil))))
      (pss_one (ps_ret (pe_disp (pps_cons pe_str (pv 1) (pps_cons pe_str pe_int (pps_cons pe_str (pe_ix ix_list (pv 1) pe_int (fun _ _ => rfl)) (pps_cons pe_str pe_int (pps_cons pe_str pe_int pps_nil))))) (by rfl) (by rfl) (fun z => by cases z) (by decide))))), ?_⟩
    have hlen : (ns.map V.int).length = ns.length := List.length_map ..
    refine ⟨.ref a, rfl, 63, rfl, a, _, rfl, hs, fun p hp => ?_⟩
    rw [cut63 hl]
    have g0 : Gr H (upd H p (.lst (ns.map V.int))) := .new hp
    have p0 : (upd H p (.lst (ns.map V.int))) p = some (.lst (ns.map V.int)) := upd_same
    have fr0 : ∀ b, (upd H p (.lst (ns.map V.int))) b = none → H b = none := fun b hb => by
      have : b ≠ p := fun z => by rw [z, upd_same] at hb; cases hb
      rwa [upd_ne this] at hb
    generalize upd H p (.lst (ns.map V.int)) = H1 at g0 p0 fr0
    refine ⟨p, rfl, ⟨_, SqL.of p0⟩, fun D hD => ?_⟩
    have nDp : p ≠ D := ne_of_none p0 hD
    refine lc_list (K := K) (a := p) (xs := ns.map V.int) (fun i H2 => H2 p = some (.lst (ns.map V.int)) ∧ H2 D = some (.lst ((ns.take i).map fun z => .int (if z < 0 then -z else z))) ∧ Gr H H2)
      ⟨by rw [upd_ne nDp]; exact p0, upd_same, g0.trans (.new hD)⟩ (fun i H2 _ hP => SqL.of hP.1) (fun i x H2 hx hP => ?_) (fun H2 hP => ?_)
    · obtain ⟨h1, h2, h3⟩ := hP
      rw [List.getElem?_map] at hx
      obtain ⟨z, hz, rfl⟩ : ∃ z, ns[i]? = some z ∧ x = V.int z := by
        cases e : ns[i]? with
        | none => rw [e] at hx; cases hx
        | some z => rw [e] at hx; exact ⟨z, rfl, (Option.some.inj hx).symm⟩
      obtain ⟨hi, hz2⟩ := List.getElem?_eq_some_iff.mp hz
      refine ⟨rfl, ?_⟩
      refine ⟨.int z, rfl, .inl ⟨z, rfl, z, rfl, _, h2, by simp [sizeLine_eq]; omega, ?_⟩⟩
      refine ⟨by rw [upd_ne nDp]; exact h1, ?_, ⟨fun b o e n => ?_, fun Q hQ => ?_⟩⟩
      · rw [upd_same, List.take_add_one, hz]
        simp
      · rw [upd_ne (ne_of_none e (fr0 D hD))]
        exact h3.same b o e n
      · obtain ⟨ps, e, t⟩ := hQ
        obtain ⟨qs, e2, t2⟩ := h3.tab Q ⟨ps, e, t⟩
        exact ⟨qs, by rw [upd_ne (ne_of_none e (fr0 D hD))]; exact e2, t2⟩
    · obtain ⟨h1, h2, h3⟩ := hP
      have e63 : ((ns.map V.int).length) = ns.length := hlen
      rw [show (ns.take (ns.map V.int).length) = ns by rw [hlen, List.take_length]] at h2
      refine ⟨.ref a, rfl, 63, rfl, a, _, rfl, h3.sql hs, fun p2 hp2 => ?_⟩
      rw [cut63 hl]
      refine ⟨.ref p2, (ns.map V.int).length, rfl, .inl ⟨_, SqL.of upd_same, rfl⟩, by simp [sizeLine_eq], fun p3 hp3 => ?_⟩
      have n1 : D ≠ p2 := ne_of_none h2 hp2
      have h2' : (upd H2 p2 (.lst (ns.map V.int))) D = some (.lst (ns.map fun z => .int (if z < 0 then -z else z))) := by rw [upd_ne n1]; exact h2
      have g3 : Gr H (upd (upd H2 p2 (.lst (ns.map V.int))) p3 (.lst [V.int ((ns.map V.int).length : Nat)])) := (h3.trans (.new hp2)).trans (.new hp3)
      refine ⟨D, p3, _, _, rfl, rfl, by rw [upd_ne (ne_of_none h2' hp3)]; exact h2', upd_same, by simp [sizeLine_eq]; omega, fun cl hcl => ?_⟩
      have ec : (ns.map fun z => V.int (if z < 0 then -z else z)) ++ [V.int ((ns.map V.int).length : Nat)] = (cellsOf ns).map V.int := by
        unfold cellsOf
        rw [List.map_append, List.map_map, hlen]
        rfl
      rw [ec]
      generalize (upd (upd H2 p2 (.lst (ns.map V.int))) p3 (.lst [V.int ((ns.map V.int).length : Nat)])) = H3 at g3 hcl
      intro sr hsr
      have n2 : sr ≠ cl := fun z => by rw [z, upd_same] at hsr; cases hsr
      have hsr3 : H3 sr = none := by rwa [upd_ne n2] at hsr
      have hc2 : (upd (upd H3 cl (.lst ((cellsOf ns).map V.int))) sr (.dK [])) cl = some (.lst ((cellsOf ns).map V.int)) := by rw [upd_ne (Ne.symm n2), upd_same]
      have h0 : 0 < (cellsOf ns).length := by unfold cellsOf; simp
      have hnn : ∀ z ∈ cellsOf ns, 0 ≤ z := fun z hz => by
        unfold cellsOf at hz
        rcases List.mem_append.mp hz with hz | hz
        · obtain ⟨y, _, rfl⟩ := List.mem_map.mp hz
          split <;> omega
        · rw [List.mem_singleton.mp hz]
          omega
      have hx : ((cellsOf ns).map V.int)[0]? = some (.int (cellsOf ns)[0]) := by rw [List.getElem?_map, List.getElem?_eq_getElem h0]; rfl
      refine ⟨.ref cl, rfl, .ref cl, rfl, cl, _, 0, _, rfl, rfl, SqL.of hc2, atI_nat (j := 0) hx, upd_same, srcF cl 0 (cellsOf ns)[0] 0 0, rfl, by simp, ?_⟩
      rw [show mergeK [] (srcF cl 0 (cellsOf ns)[0] 0 0) = srcF cl 0 (cellsOf ns)[0] 0 0 by kernel_rfl, upd_twice]
      refine q _ sr cl ((g3.trans (.new hcl)).trans (.new hsr)) ⟨⟨0, _, 0, 0, upd_same, by omega, hnn _ (List.getElem_mem h0), by omega, by omega⟩, by rw [upd_ne (Ne.symm n2), upd_same], h0, by unfold cellsOf; simp; omega, hnn⟩
end
end K74
/-! ## Ko -/
set_option Elab.async false
set_option linter.all false
set_option maxRecDepth 100000
set_option maxHeartbeats 4000000
namespace K74
open PySem PySem.Spec PyProof.Rows L2 He Kx Gx GxR
/-! ### the names that are none -/
def nmV (l t : Addr) : List V := [.str "", .str "abcdefghi", .str "A", .str "aB", .str "a1", .str "a b", .str " a", .str "a ", .str "a\n", .str "a-b", .str "-", .non, .int 5, .bl true, .ref l, .ref t, .int 0, .str "a/b"]
def nmD : List PyData := [.str "", .str "abcdefghi", .str "A", .str "aB", .str "a1", .str "a b", .str " a", .str "a ", .str "a\n", .str "a-b", .str "-", .none, .int 5, .bool true, .list [.str "a"], .tuple [.str "a"], .int 0, .str "a/b"]
theorem nmD_bad : nmD.all (fun d => !nameD d) = true := by kernel_rfl
/-- the list of them at n -/
structure Nms (H : Hp) (n l t : Addr) : Prop where
  n : H n = some (.lst (nmV l t))
  l : H l = some (.lst [.str "a"])
  t : H t = some (.tup [.str "a"])
theorem Nms.dp {K : PySem.W.Frag} {H : Hp} {n l t : Addr} (h : Nms H n l t) : DpAll K H (nmV l t) nmD :=
  .cons (.str _) (.cons (.str _) (.cons (.str _) (.cons (.str _) (.cons (.str _) (.cons (.str _) (.cons (.str _) (.cons (.str _) (.cons (.str _) (.cons (.str _) (.cons (.str _) (.cons .non (.cons (.int _) (.cons (.bl _)
    (.cons (.lst (SqL.of h.l) (.cons (.str _) .nil)) (.cons (.tup (SqT.of h.t) (.cons (.str _) .nil)) (.cons (.int _) (.cons (.str _) .nil)))))))))))))))))
section
variable {P : Program} {w : World} {K : PySem.W.Frag} {mg : Str → Option Value} {base : Heap}
def spNames (K : PySem.W.Frag) : Sp := fun vs H Q _ => vs = [] ∧ ∀ H' n l t, Gr H H' → Nms H' n l t → Q (.ref n) H'
theorem sc_bad : FnScope [] [] (defScope s_law_bad_names) := ⟨rfl, rfl, rfl, by decide +kernel, rfl, by decide +kernel, by decide +kernel⟩
theorem ok_bad (W : Wd K mg base) : FnP P w K mg base CX0 1 ("_law_bad_names", none) [] (spNames K) := by
  refine fnP_of (W.fn 27 _ rfl) sc_bad (fun _ _ _ _ _ _ us hl => match us, hl with | [], _ => rfl) (fun vs H Q E h => ?_) (fun A outer s H vs Q E hr h => ?_)
  · obtain ⟨rfl, _⟩ := h
    rfl
  · obtain ⟨rfl, q⟩ := h
    refine ⟨_, PSs.nox (pss_one (ps_ret (pe_lst (pa_cons pe_str (pa_cons pe_str (pa_cons pe_str (pa_cons pe_str (pa_cons pe_str (pa_cons pe_str (pa_cons pe_str (pa_cons pe_str (pa_cons pe_str (pa_cons pe_str (pa_cons pe_str (pa_cons pe_non (pa_cons pe_int (pa_cons pe_bl
      (pa_cons (pe_lst (pa_cons pe_str pa_nil)) (pa_cons (pe_tup (pa_cons pe_str pa_nil)) (pa_cons pe_int (pa_cons pe_str pa_nil))))))))))))))))))))), ?_⟩
    refine ⟨by simp [sizeLine_eq], fun l hl => ⟨by simp [sizeLine_eq], fun t ht => ⟨by simp [sizeLine_eq], fun n hn => ?_⟩⟩⟩
    have e1 : (upd H l (.lst [.str "a"])) l = some (.lst [.str "a"]) := upd_same
    have n1 := ne_of_none e1 ht
    have e2 : (upd (upd H l (.lst [.str "a"])) t (.tup [.str "a"])) l = some (.lst [.str "a"]) := by rw [upd_ne n1]; exact e1
    have e3 : (upd (upd H l (.lst [.str "a"])) t (.tup [.str "a"])) t = some (.tup [.str "a"]) := upd_same
    refine q _ n l t (((Gr.new hl).trans (.new ht)).trans (.new hn)) ⟨upd_same, ?_, ?_⟩
    · rw [upd_ne (ne_of_none e2 hn)]; exact e2
    · rw [upd_ne (ne_of_none e3 hn)]; exact e3
end
end K74
/-! ## Kp -/
set_option Elab.async false
set_option linter.all false
set_option maxRecDepth 100000
set_option maxHeartbeats 4000000
namespace K74
open PySem PySem.Spec PyProof.Rows L2 He Kx Gx GxR
/-- the values of a call with keywords alone, in the parameters' order -/
def tMethK (C : Addr) (m : Str) (sp : Sp) (gV : List V → List V → List V) (E : XK) (to : TE) (tk : TA) : TE := fun σ H Q => to σ H fun x H1 => ∃ a dx fs, x = .ref a ∧ H1 a = some (.ins C dx fs) ∧ fs.lookup m = none ∧ tk σ H1 fun zs H2 => sp (gV [x] zs) H2 Q E
/-- o.m(k = v, ..), o a console -/
theorem pe_methK {X : Cx} {CX : CXT} {m : Str} {ps ks : List Str} {k : Nat} {sp : Sp} {E : XK} {o : Expr} {kws : List Keyword} {ta : TE} {tk : TA} {apos pos : Pos} {pl : Sem Bool} {fd : FuncData} {g : List Value → List Value → List Value} {gV : List V → List V → List V} {f : Addr}
    (G : FnOk X.prog X.w X.K X.mg X.base CX k f fd ps sp) (hb : KBinds X.K fd ps ks g gV) (c : Cls X.K (cC X.K)) (hm : Meth X.K (cC X.K) m f) (hr : Room k X.A) (hx : Passes CX X E) (ho : PE X o ta) (hkw : PK X kws tk)
    (hall : (backToKw pos (keywordEach kws X.env)).all (·.1.isSome) = true := by rfl) (hks : (backToKw pos (keywordEach kws X.env)).filterMap (·.1) = ks := by rfl)
    (hpl : ((backTo pos (starEach [] X.env)).any (·.1) || (backToKw pos (keywordEach kws X.env)).any (·.1.isNone)) = false := by rfl)
    (ht : eval (.Call (.Attribute o m apos) [] kws pos) X.env = (do
      let ov ← eval o X.env
      standAt apos.atName
      let (f, first) ← holding [ov] (getMethod ov m pl)
      callWith pos f first (backTo pos (starEach [] X.env)) (backToKw pos (keywordEach kws X.env))) := by rfl) :
    PE X (.Call (.Attribute o m apos) [] kws pos) (tMethK (cC X.K) m sp gV E ta tk) := by
  refine ⟨fun pins s σ H Q I h => PySem.W.methodCall_KW (pl := pl) (thn (ho.run pins s σ H _ I h) fun u s1 ⟨x, H1, I1, rx, a, dx, fs, ex, ea, l, q⟩ => ?_) ht⟩
  subst ex
  obtain rfl : u = Value.ref a := rx
  refine getmeth_ok I1 ea c hm l (PySem.W.callWith_KW0 (first := [.ref a]) (h₀ := X.base) I1.ok.mod.kin hm.kp hall (thn (hkw.run pos pins s1 σ H1 _ I1 q) fun ws s2 ⟨zs, H2, I2, rz, q2⟩ => ⟨I2.kIn, ?_⟩) hpl)
  rw [hks]
  exact run_fnk (us := [.ref a]) (vs := [.ref a]) G hr hb hx I2 (.cons rfl .nil) rz q2
theorem vals_len {vs : List V} {us : List Value} (r : Vals vs us) : vs.length = us.length := Paired.length r
/-- (self; grammar, name) to self, name, grammar -/
def reK {α : Type} : List α → List α → List α
  | [a], [g, n] => [a, n, g]
  | _, _ => []
/-- (self; name) to self, name -/
def reN {α : Type} : List α → List α → List α
  | [a], [n] => [a, n]
  | _, _ => []
theorem reK_vals {vs : List V} {us : List Value} {zs : List V} {ws : List Value} (r : Vals vs us) (z : Vals zs ws) : Vals (reK vs zs) (reK us ws) := by
  match vs, us, zs, ws, r, z with
  | [_], [_], [_, _], [_, _], .cons a .nil, .cons b (.cons c .nil) => exact .cons a (.cons c (.cons b .nil))
  | [], [], _, _, _, _ => exact .nil
  | _ :: _ :: _, _ :: _ :: _, _, _, _, _ => exact .nil
  | [_], [_], [], [], _, _ => exact .nil
  | [_], [_], [_], [_], _, _ => exact .nil
  | [_], [_], _ :: _ :: _ :: _, _ :: _ :: _ :: _, _, _ => exact .nil
theorem reN_vals {vs : List V} {us : List Value} {zs : List V} {ws : List Value} (r : Vals vs us) (z : Vals zs ws) : Vals (reN vs zs) (reN us ws) := by
  match vs, us, zs, ws, r, z with
  | [_], [_], [_], [_], .cons a .nil, .cons b .nil => exact .cons a (.cons b .nil)
  | [], [], _, _, _, _ => exact .nil
  | _ :: _ :: _, _ :: _ :: _, _, _, _, _ => exact .nil
  | [_], [_], [], [], _, _ => exact .nil
  | [_], [_], _ :: _ :: _, _ :: _ :: _, _, _ => exact .nil
section
variable {P : Program} {w : World} {K : PySem.W.Frag} {mg : Str → Option Value} {base : Heap}
theorem kb_gen {x q : Str} {st : Stmt} {p : Defn} {fd : FuncData} {ps ks : List Str} {g : List Value → List Value → List Value} {gV : List V → List V → List V} (F0 : FD K x q st p) (h : FdAt K p fd)
    (hb : ∀ (kV doc pm : Value) (an : Option Addr) (cdv ct : Value) (us ws : List Value), (g us ws).length = ps.length → bindArgs (PySem.W.fnOf x q (defArgs st) (defBody st) (defScope st) .none kV doc pm an cdv ct) ⟨us, ks.zip ws⟩ = pure (ps.zip (g us ws)))
    (rel : ∀ {vs : List V} {us : List Value} {zs : List V} {ws : List Value}, Vals vs us → Vals zs ws → Vals (gV vs zs) (g us ws)) : KBinds K fd ps ks g gV := by
  obtain ⟨fd', F⟩ := F0
  obtain ⟨oc, od, dV, kV, doc, pm, an, cdv, ct, osl, rfl, lk, hcd, hD, hK⟩ := F.ex
  obtain ⟨oc', od', osl', lk'⟩ := h
  rw [lk] at lk'
  cases lk'
  obtain ⟨_, rfl⟩ : _ ∧ dV = .none := by
    rcases hD with e | ⟨e, _⟩
    · exact e
    · exact absurd rfl e
  exact ⟨fun s us ws _ hl => .of_eq (hb _ _ _ _ _ _ us ws hl), rel⟩
/-! ### _law_call -/
def spCall (K : PySem.W.Frag) : Sp := fun vs H Q E => ∃ (c : Addr) (v g : V) (b : Bool) (dx : Addr) (fs : List (Str × V)), H c = some (.ins (cC K) dx fs) ∧ fs.lookup ("keep" : Str) = none ∧ fs.lookup ("drop" : Str) = none ∧ fs.lookup ("grammar" : Str) = none ∧
  ((vs = [.ref c, .str "keep", v, g, .bl b] ∧ spKeep K [.ref c, v, g] H Q E) ∨ (vs = [.ref c, .str "drop", v, g, .bl b] ∧ spDrop K [.ref c, v] H Q E) ∨ (vs = [.ref c, .str "grammar", v, g, .bl b] ∧ spGet K [.ref c, v] H Q E))
theorem sc_call : FnScope ["console", "what", "name", "grammar", "named"] ["console", "what", "name", "grammar", "named"] (defScope s_law_call) := ⟨rfl, rfl, rfl, by decide +kernel, rfl, by decide +kernel, by decide +kernel⟩
theorem ok_call (W : Wd K mg base) : FnP P w K mg base (L2.CX P w) 17 ("_law_call", none) ["console", "what", "name", "grammar", "named"] (spCall K) := by
  obtain ⟨f1, G1, b1, k1, a1⟩ := ok_ckeep (P := P) (w := w) W
  obtain ⟨f2, G2, b2, k2, a2⟩ := ok_cdrop (P := P) (w := w) W
  obtain ⟨f3, G3, b3, k3, a3⟩ := ok_cget (P := P) (w := w) W
  have B1 : KBinds K f1 ["self", "name", "grammar"] ["grammar", "name"] reK reK := kb_gen (x := "keep") (q := "Console.keep") (st := s_Console_keep) (W.fn 13 _ rfl) a1 (fun _ _ _ _ _ _ us ws hl => match us, ws, hl with | [_], [_, _], _ => rfl) reK_vals
  have B2 : KBinds K f2 ["self", "name"] ["name"] reN reN := kb_gen (x := "drop") (q := "Console.drop") (st := s_Console_drop) (W.fn 14 _ rfl) a2 (fun _ _ _ _ _ _ us ws hl => match us, ws, hl with | [_], [_], _ => rfl) reN_vals
  have B3 : KBinds K f3 ["self", "name"] ["name"] reN reN := kb_gen (x := "grammar") (q := "Console.grammar") (st := s_Console_grammar) (W.fn 17 _ rfl) a3 (fun _ _ _ _ _ _ us ws hl => match us, ws, hl with | [_], [_], _ => rfl) reN_vals
  refine fnP_of (W.fn 29 _ rfl) sc_call (fun _ _ _ _ _ _ us hl => match us, hl with | [_, _, _, _, _], _ => rfl) (fun vs H Q E h => ?_) (fun A outer s H vs Q E hr h => ?_)
  · obtain ⟨c, v, g, b, dx, fs, _, _, _, _, ⟨rfl, _⟩ | ⟨rfl, _⟩ | ⟨rfl, _⟩⟩ := h <;> rfl
  · obtain ⟨c, v, g, b, dx, fs, hc, l1, l2, l3, h⟩ := h
    have tk : ∀ {X : Cx}, X = cxOf (L2.CX P w) P w K mg base ["console", "what", "name", "grammar", "named"] "_law_call" (defScope s_law_call) (fAd K ("_law_call", none)) (.ref (codeOf K ("_law_call", none))) A outer s H E → Passes (L2.CX P w) X E := fun e => by
      subst e
      exact passes_call (takes_of rfl rfl rfl rfl) (fun _ _ _ _ h => h)
    refine ⟨_, pss_cons (ps_if (pt_cmpR op_eq (pv 1) pe_str (nomark _)) (pss_one (ps_ret (pe_ifExp (pt_val (pv 4)) (pe_methK G1 B1 W.cls (W.meth 60) hr (tk rfl) (pv 0) (pk_cons (pv 3) (pk_cons (pv 2) pk_nil))) (pe_methP (ok_ckeep W) W.cls (W.meth 60) hr (tk rfl) (pv 0) (pa_cons (pv 2) (pa_cons (pv 3) pa_nil)))))) pss_nil)
      (pss_cons (ps_if (pt_cmpR op_eq (pv 1) pe_str (nomark _)) (pss_one (ps_ret (pe_ifExp (pt_val (pv 4)) (pe_methK G2 B2 W.cls (W.meth 61) (hr.mono (by omega)) (tk rfl) (pv 0) (pk_cons (pv 2) pk_nil)) (pe_methP (ok_cdrop W) W.cls (W.meth 61) (hr.mono (by omega)) (tk rfl) (pv 0) (pa_cons (pv 2) pa_nil))))) pss_nil)
      (pss_one (ps_ret (pe_ifExp (pt_val (pv 4)) (pe_methK G3 B3 W.cls (W.meth 64) (hr.mono (by omega)) (tk rfl) (pv 0) (pk_cons (pv 2) pk_nil)) (pe_methP (ok_cget W) W.cls (W.meth 64) (hr.mono (by omega)) (tk rfl) (pv 0) (pa_cons (pv 2) pa_nil)))))), ?_⟩
    rcases h with ⟨rfl, h⟩ | ⟨rfl, h⟩ | ⟨rfl, h⟩
    · refine ⟨.str "keep", rfl, rfl, _, rfl, ?_⟩
      refine ⟨.bl b, rfl, b, rfl, ?_⟩
      cases b with
      | true => exact ⟨.ref c, rfl, c, dx, fs, rfl, hc, l1, g, rfl, v, rfl, h⟩
      | false => exact ⟨.ref c, rfl, c, dx, fs, rfl, hc, l1, v, rfl, g, rfl, h⟩
    · refine ⟨.str "drop", rfl, rfl, _, rfl, ?_⟩
      refine ⟨.str "drop", rfl, rfl, _, rfl, ?_⟩
      refine ⟨.bl b, rfl, b, rfl, ?_⟩
      cases b with
      | true => exact ⟨.ref c, rfl, c, dx, fs, rfl, hc, l2, v, rfl, h⟩
      | false => exact ⟨.ref c, rfl, c, dx, fs, rfl, hc, l2, v, rfl, h⟩
    · refine ⟨.str "grammar", rfl, rfl, _, rfl, ?_⟩
      refine ⟨.str "grammar", rfl, rfl, _, rfl, ?_⟩
      refine ⟨.bl b, rfl, b, rfl, ?_⟩
      cases b with
      | true => exact ⟨.ref c, rfl, c, dx, fs, rfl, hc, l3, v, rfl, h⟩
      | false => exact ⟨.ref c, rfl, c, dx, fs, rfl, hc, l3, v, rfl, h⟩
end
end K74
/-! ## Kq -/
set_option Elab.async false
set_option linter.all false
set_option maxRecDepth 100000
set_option maxHeartbeats 4000000
namespace K74
open PySem PySem.Spec PyProof.Rows L2 He Kx Gx GxR
/-- a caught exception that is kept: its class, its dict -/
def exk (a : Addr) (cls : Value) (d : Option Addr) : HO := .ext fun h => ∃ oe, h.get? a = some oe ∧ Zc cls d oe ∧ ∃ vs, oe.data = .fields vs
theorem exk_own {a x : Addr} {cls : Value} {d : Option Addr} : exk a cls d ≠ .own x := fun z => by
  have z' : HO.ext _ = HO.own x := z
  cases z'
/-- a pinned object is tracked from now on -/
theorem adopt {X : Cx} {pins : List (Addr × Obj)} {σ : L2.St} {H : Hp} {s : Shared} {a : Addr} {oe : Obj} {cls : Value} {d : Option Addr} (J : Inv X ((a, oe) :: pins) σ H s) (hz : Zc cls d oe) (hd : ∃ vs, oe.data = .fields vs) (h0 : X.s_0.heap.get? a = none) (hp : ∀ p ∈ X.pn ++ pins, p.1 ≠ a) :
    Inv X pins σ (upd H a (exk a cls d)) s := by
  obtain ⟨ha, na, nl, nf, nc⟩ := J.pin (a, oe) (List.mem_append_right _ List.mem_cons_self)
  have keep : ∀ {b : Addr} {u : HO}, H b = some u → upd H a (exk a cls d) b = some u := fun {b u} e => by
    rw [upd_ne (ne_of_none e na)]
    exact e
  refine ⟨J.ok, J.os, J.bare, ⟨J.base.keep, J.base.slot, fun b o e n hx => ?_, J.base.there, fun b xs e => keep (J.base.tups b xs e), fun b o u e => keep (J.base.frzs b o u e), fun b ps e => ?_⟩, J.loc, J.cell, ?_, fun x c e => ?_, fun p hp' => ?_, fun b ob e => ?_, J.len⟩
  · have ne : b ≠ a := fun z => by rw [z, h0] at e; cases e
    rw [upd_ne ne]
    exact J.base.free b o e n hx
  · obtain ⟨more, e2⟩ := J.base.tbls b ps e
    exact ⟨more, keep e2⟩
  · rw [upd_ne (Ne.symm nl)]
    exact J.free
  · have ne : c ≠ a := fun z => by
      obtain ⟨v, o, e1, e2⟩ := J.cell x c e
      subst z
      rw [ha] at e1
      cases e1
      exact nc v e2
    rw [upd_ne ne]
    exact J.freeC x c e
  · have hp2 : p ∈ X.pn ++ ((a, oe) :: pins) := (List.mem_append.mp hp').elim (fun z => List.mem_append_left _ z) fun z => List.mem_append_right _ (List.mem_cons_of_mem _ z)
    obtain ⟨q1, q2, q3⟩ := J.pin p hp2
    exact ⟨q1, by rw [upd_ne (hp p hp')]; exact q2, q3⟩
  · by_cases hb : b = a
    · subst hb
      rw [upd_same] at e
      cases e
      exact ⟨⟨oe, ha, hz, hd⟩, ⟨oe, ha⟩, fun h1 h2 ⟨o, e1, z, v⟩ k => ⟨o, k o e1, z, v⟩⟩
    · rw [upd_ne hb] at e
      exact (J.hok b ob e).stay (fun _ _ _ y => y) (fun c hc => keep hc) fun c xs hc => keep hc
/-- what the clause wishes of an exception of the body, the exception kept behind it -/
def wKeep (K : PySem.W.Frag) (c : Value) (i : Nat) (ts : Addr → Value → Option Addr → TS) (D : Ends) : WX := fun cls d σ H =>
  PySem.W.exmOne K cls c = some true ∧ (∀ a, H a = none → ts a cls d { nx := fun σ' H' => H' a = none → D.nx (σ'.set i none) (upd H' a (exk a cls d)), rt := fun _ _ => False, bk := fun _ _ => False, ct := fun _ _ => False } (σ.set i (some (.ref a))) H)
theorem ps_try_keep {X : Cx} {x n : Str} {c : Value} {i : Nat} {body suite : List Stmt} {b0 : Stmt} {np pos pos' : Pos} {tb : WX → TS} {ts : Addr → Value → Option Addr → TS}
    (hs : X.stack = X.env :: X.outer) (hf : X.env.frame = some X.env.locals) (hN : X.N.Nodup) (hi : X.N[i]? = some n) (hln : X.env.kindOf n = some .local) (hc : Names X x c) (hex : X.ex = [])
    (hb : ∀ (W : WX) (pn : List (Addr × Obj)) (xe : Value → Shared → Prop), Takes (X.tr pn xe) W → PassesOwn (model X.prog X.w) X.A X.env xe → PSs (X.tr pn xe) body (tb W))
    (hsu : ∀ (a : Addr) (oe : Obj) (cls : Value) (d : Option Addr) (pn : List (Addr × Obj)), Zc cls d oe → (∃ vs, oe.data = .fields vs) → PSs (X.suite a ((a, oe) :: pn)) (b0 :: suite) (ts a cls d)) :
    PS X (.Try body [.ExceptHandler (some (.Name x np)) (some n) (b0 :: suite) pos'] [] [] pos) (fun D σ H => tb (wKeep X.K c i ts D) D σ H) := by
  refine ⟨fun pins s σ H D I h => wpAny_Try_except ?_⟩
  have ok := I.ok
  have fr : X.A.frames = some (X.env :: X.outer) := ok.frames.trans (by rw [hs])
  have take : Takes (X.tr (X.pn ++ pins) (fun e s1 => wpAny (model X.prog X.w) X.A (noteFrame e X.env) (fun _ s2 => wpAny (model X.prog X.w) X.A (setFlight e none) (fun _ s3 => wpAny (model X.prog X.w) X.A (handleBy e X.env [.ExceptHandler (some (.Name x np)) (some n) (b0 :: suite) pos']) (SP X pins D) X.xe s3) X.xe s2) X.xe s1)) (wKeep X.K c i ts D) := by
    rintro u s' ⟨a, B, sI, pins', σ', H', cls, d, rfl, J', nb, up, sky, na, os, ag, hb1, hyes⟩
    have J : Inv X pins σ' H' sI := J'.ofTry ok
    rw [hs] at sky
    refine Sky.land (M := model X.prog X.w) Zc.steady fr hf sky fun h3 fl3 up3 => ?_
    have J3 : Inv X pins σ' H' { s' with heap := h3 } := J.landed nb fl3.1 (up.trans up3) os ag
    obtain ⟨oe3, vs3, he3, hz3, hd3⟩ := fl3.there
    have nfr : a ∉ frs (X.env :: X.outer) := fun hm => by
      obtain ⟨_, o', e', hnf⟩ := fl3.2.2.1.mem hm
      rw [he3] at e'
      cases e'
      exact hnf _ hd3
    have nL : a ≠ X.env.locals := fun z => nfr (List.mem_filterMap.mpr ⟨X.env, List.mem_cons_self, by rw [hf, z]⟩)
    have nF : a ∉ X.fs := fun hm => by
      obtain ⟨e, he, q⟩ := List.mem_filterMap.mp hm
      exact nfr (List.mem_filterMap.mpr ⟨e, List.mem_cons_of_mem _ he, q⟩)
    have noI : ∀ o, sI.heap.get? a ≠ some o := fun o e => by
      have z := nb a o e (by show a ∉ frs X.stack; rw [hs]; exact nfr)
      rw [fl3.2.1] at z
      cases z
    have h0 : X.s_0.heap.get? a = none := by
      cases e : X.s_0.heap.get? a with
      | none => rfl
      | some o =>
        obtain ⟨o', e'⟩ := J.base.there a o e (by rw [hex]; simp)
        exact absurd e' (noI o')
    have hp : ∀ p ∈ X.pn ++ pins, p.1 ≠ a := fun p hp z => noI p.2 (z ▸ (J.pin p hp).1)
    have S3 := J3.suite he3 hd3 na nL nF
    refine wpAny_handleBy_cons (codeAny_handlers_test ?_) (by intro q; cases q)
    have LT : PySem.W.Looks (model X.prog X.w) h3 (typeOf (.ref a)) cls := fun A Q E s k q => wpAny_typeOf_ref (k _ _ he3) (by rw [hz3.1]; exact q)
    have LM := PySem.W.exm_one (M := model X.prog X.w) J3.kIn LT hb1
    have test : ∀ {Q : Value → Shared → Prop} {E : Value → Shared → Prop}, Q c { s' with heap := h3 } → wpAny (model X.prog X.w) (X.A.mark (some (.ref a))) (eval (.Name x np) X.env) Q E { s' with heap := h3 } := fun {Q E} q => by
      obtain ⟨hg, hdbg, hm | ⟨hm, hv, hnn⟩⟩ := hc
      · exact ld_glob (X := X.suite a ((a, oe3) :: (X.pn ++ pins))) S3 hg hm q hdbg
      · exact ld_blt (X := X.suite a ((a, oe3) :: (X.pn ++ pins))) S3 hg hm hv q hnn hdbg
    refine test (LM.here ?_)
    refine codeAny_handlers_suite_as (HandSPX.lands_againZ fl3 fun h4 fl4 up4 => ?_)
    have J4 : Inv X pins σ' H' { s' with heap := h4 } := J.landed nb fl4.1 ((up.trans up3).trans up4) os ag
    obtain ⟨oe4, vs4, he4, hz4, hd4⟩ := fl4.there
    have S4 := J4.suite he4 hd4 na nL nF
    refine store_ok (X := X.suite a ((a, oe4) :: (X.pn ++ pins))) (v := .ref a) S4 hN hi (.inl hln) rfl (fun s5 S5 => ?_) (.inr hln)
    refine wpAny_mono ((hsu a oe4 cls d (X.pn ++ pins) hz4 ⟨_, hd4⟩).run [] s5 _ H' _ S5 (hyes a na)) (fun f s6 hsp => ?_) (fun _ _ z => False.elim z)
    cases f with
    | next =>
      obtain ⟨σ6, H6, S6, q6⟩ := hsp
      have K6 : Inv X ((a, oe4) :: pins) σ6 H6 s6 := ⟨ok, S6.os, S6.bare, S6.base, S6.loc, S6.cell, S6.free, S6.freeC, fun p hp => S6.pin p (by
        rcases List.mem_append.mp hp with z | z
        · exact List.mem_append_left _ (List.mem_cons_of_mem _ (List.mem_append_left _ z))
        · rcases List.mem_cons.mp z with z | z
          · rw [z]
            exact List.mem_append_left _ List.mem_cons_self
          · exact List.mem_append_left _ (List.mem_cons_of_mem _ (List.mem_append_right _ z))), S6.hok, S6.len⟩
      have n6 := (K6.pin (a, oe4) (List.mem_append_right _ List.mem_cons_self)).2.1
      exact gone_ok K6 hN hi hln fun s7 J7 => ⟨_, _, adopt J7 hz4 ⟨_, hd4⟩ h0 hp, q6 n6⟩
    | brk => obtain ⟨_, _, _, q6⟩ := hsp; exact q6.elim
    | cont => obtain ⟨_, _, _, q6⟩ := hsp; exact q6.elim
    | ret u => obtain ⟨_, _, _, _, _, q6⟩ := hsp; exact q6.elim
  refine wpAny_mono ((hb (wKeep X.K c i ts D) (X.pn ++ pins) _ take PassesOwn.looking).run [] s σ H D (I.toTry _) h) (fun f s1 hsp => ?_) (fun e s1 he => he)
  cases f with
  | next =>
    obtain ⟨σ', H', J', q⟩ := hsp
    exact wpAny_execs_nil ⟨σ', H', J'.ofTry ok, q⟩
  | brk =>
    obtain ⟨σ', H', J', q⟩ := hsp
    exact ⟨σ', H', J'.ofTry ok, q⟩
  | cont =>
    obtain ⟨σ', H', J', q⟩ := hsp
    exact ⟨σ', H', J'.ofTry ok, q⟩
  | ret u =>
    obtain ⟨v, σ', H', J', r, q⟩ := hsp
    exact ⟨v, σ', H', J'.ofTry ok, r, q⟩
end K74
/-! ## Kr -/
set_option Elab.async false
set_option linter.all false
set_option maxRecDepth 100000
set_option maxHeartbeats 4000000
namespace K74
open PySem PySem.Spec PyProof.Rows L2 He Kx Gx GxR
/-- a kept exception of the class at D, its fields -/
structure Exk (H : Hp) (a D dd : Addr) (fs : List (Str × V)) : Prop where
  ob : H a = some (exk a (.ref D) (some dd))
  xd : H dd = some (.xd fs)
theorem Exk.inst {X : Cx} {pins : List (Addr × Obj)} {σ : L2.St} {H : Hp} {s : Shared} {a D dd : Addr} {fs : List (Str × V)} (e : Exk H a D dd fs) (I : Inv X pins σ H s) : ∃ oe od, PySem.W.InstAt s.heap a oe D (some od) ∧ (∃ vs, oe.data = .fields vs) ∧ oe.dict = some dd ∧ s.heap.get? dd = some od ∧
    ∃ mA : Str → Option Value, (∀ f, RelO (fs.lookup f) (mA f)) ∧ ∀ name, PySem.W.lookIn name od = some (mA name) := by
  obtain ⟨⟨oe, ha, hz, hd⟩, _⟩ := (show ObjOk X.prog X.w H s.heap a (exk a (.ref D) (some dd)) from I.hok a _ e.ob)
  obtain ⟨mA, hns, hr⟩ := (show ObjOk X.prog X.w H s.heap dd (.xd fs) from I.hok dd _ e.xd)
  obtain ⟨od, ho, hl⟩ := lookIn_ns hns
  obtain ⟨vs, hv⟩ := hd
  exact ⟨oe, od, ⟨ha, hz.1, by unfold PySem.W.notCls; rw [hv] <;> rfl, by rw [hz.2]; exact ho⟩, ⟨vs, hv⟩, hz.2, ho, mA, hr, hl⟩
/-- isinstance(e, c), e a kept exception -/
def rIsX (K : PySem.W.Frag) : List V → Hp → VK → Prop := fun xs H Q => ∃ (a D dd : Addr) (fs : List (Str × V)) (c : V) (cv : Value) (b : Bool), xs = [.ref a, c] ∧ Exk H a D dd fs ∧ ExcC K D ∧ (∀ u, RelV c u → u = cv) ∧ PySem.W.kitOne K (.ref D) cv = some b ∧ Q (.bl b) H
theorem call_isX {X : Cx} : CallR X (.builtin "isinstance") (rIsX X.K) := by
  intro pins s σ H xs us Q I r h
  obtain ⟨a, D, dd, fs, c, cv, b, rfl, ek, C, hcv, e, q⟩ := h
  cases r with
  | cons rx rr =>
    cases rr with
    | cons rt rr =>
      cases rr
      cases rx
      have ec := hcv _ rt
      subst ec
      obtain ⟨oe, od, J, _⟩ := ek.inst I
      obtain ⟨cd, hc, _⟩ := PySem.W.any_some C.hd
      have Z := PySem.W.kitx_exc (x := a) (ox := oe) (od := some od) (by rw [hc] <;> rfl) C.hg C.hk C.hs C.ha C.hn C.ht C.hm
      exact PySem.W.kia_one Z I.kIn J e (fun z => nomatch z) fun tk => ⟨.bl b, H, I.kept (t' := tk) fun _ _ z => z, rfl, q⟩
/-- e.f, e a kept exception -/
def tXk (K : PySem.W.Frag) (f : Str) (te : TE) : TE := fun σ H Q => te σ H fun x H1 => ∃ (a D dd : Addr) (fs : List (Str × V)) (v : V), x = .ref a ∧ Exk H1 a D dd fs ∧ XfC K D ∧ PySem.W.findIn K (.ref D) f = some none ∧ fs.lookup f = some v ∧ Q v H1
theorem pe_xk {X : Cx} {e : Expr} {te : TE} {pos : Pos} {n : Str} (he : PE X e te) (hb : attributeBase e n X.env (eval e X.env) = eval e X.env := by rfl) : PE X (.Attribute e n pos) (tXk X.K n te) := by
  refine ⟨fun pins s σ H Q I h => attr_of hb (thn (he.run pins s σ H _ I h) fun u s1 ⟨x, H1, I1, rx, a, D, dd, fs, v, ex, ek, T, hno, l, q⟩ => ?_)⟩
  subst ex
  obtain rfl : u = Value.ref a := rx
  obtain ⟨oe, od, J, _, _, _, mA, hr, hl⟩ := ek.inst I1
  obtain ⟨u, hu, ru⟩ := RelO.some_of (v := v) (o := mA n) (by rw [← l]; exact hr n)
  exact HandSPX.exc_get I1.kIn J T.ga T.gg T.exC (PySem.W.findObj_own T.hdC hno rfl (by rw [hl, hu])) (handed_of ru) ⟨v, H1, I1.tok _, ru, q⟩
/-- e is None, e a kept exception -/
theorem exk_xf {K : PySem.W.Frag} {x : Str} (F : ExF K x) : XfC K (ga K x) := ⟨F.exc.hg, F.exc.hk, F.exc.hs, F.exc.hd⟩
end K74
/-! ## Ks -/
set_option Elab.async false
set_option linter.all false
set_option maxRecDepth 100000
set_option maxHeartbeats 4000000
namespace K74
open PySem PySem.Spec PyProof.Rows L2 He Kx Gx GxR
/-! ### _law_kinds -/
/-- the classes in the order in which the law asks them, their words -/
def kdL : List (Str × Str) := [("InvalidAnswer", "answer"), ("InvalidCount", "count"), ("InvalidGrammar", "grammar"), ("InvalidMachine", "machine"), ("InvalidName", "name"), ("InvalidNumber", "number"), ("InvalidPair", "pair"), ("InvalidPrices", "prices"), ("InvalidSaying", "saying"), ("InvalidVariables", "variables"),
  ("NothingToUndo", "nothing"), ("TooMany", "many"), ("UnknownName", "unknown"), ("Unorderly", "unorderly"), ("Unreadable", "unreadable")]
/-- isinstance(e, y), e a kept error of the package, y one of its classes -/
def rIsP (K : PySem.W.Frag) : List V → Hp → VK → Prop := fun xs H Q => ∃ (a dd : Addr) (fs : List (Str × V)) (x y : Str), xs = [.ref a, .ref (ga K y)] ∧ Exk H a (ga K x) dd fs ∧ x ∈ excL ∧ y ∈ excL ∧ Q (.bl (decide (x = y))) H
theorem call_isP {X : Cx} (W : Wd X.K X.mg X.base) : CallR X (.builtin "isinstance") (rIsP X.K) := by
  intro pins s σ H xs us Q I r h
  obtain ⟨a, dd, fs, x, y, rfl, ek, hx, hy, q⟩ := h
  have F := W.exF hx
  exact call_isX pins s σ H _ us Q I r ⟨a, _, dd, fs, _, .ref (ga X.K y), _, rfl, ek, F.exc, fun u ru => ru, F.kit y hy, q⟩
theorem pe_ga {X : Cx} {x : Str} {pos : Pos} (hm : X.mg x = some (.ref (ga X.K x))) (hg : Gl X x := by rfl) (hd : (x == ("__debug__" : Str)) = false := by decide) : PE X (.Name x pos) (tC (.ref (ga X.K x))) := pe_glob hg hm rfl hd
theorem kd_one : (excL.all fun x => decide ((kdL.filter fun p => decide (x = p.1)).map (fun p => p.2) = (kdL.lookup x).toList)) = true := by kernel_rfl
theorem shortK (x : Str) (hx : x ∈ excL) (k : Str) (hk : kdL.lookup x = some k) : ([k].map (fun z : Str => z.length)).sum + [k].length * (" " : Str).length ≤ 16777216 := by
  have z : (excL.all fun x => (kdL.lookup x).all fun k => decide (([k].map (fun z : Str => z.length)).sum + [k].length * (" " : Str).length ≤ 16777216)) = true := by kernel_rfl
  have z2 := List.all_eq_true.mp z x hx
  rw [hk] at z2
  exact of_decide_eq_true z2
theorem grx_gr {H H' : Hp} {D : Addr} (g : GrX [D] H H') (h : H D = none) : Gr H H' := ⟨fun a o e n => g.same a o (by simp; exact ne_of_none e h) e n, g.tab⟩
theorem Exk.gr {H H' : Hp} {a D dd : Addr} {fs : List (Str × V)} (e : Exk H a D dd fs) (g : Gr H H') : Exk H' a D dd fs := ⟨g.same a _ e.ob (fun ps q => by
  have z : HO.ext _ = HO.tbl ps := q
  cases z), g.same dd _ e.xd (fun ps q => by cases q)⟩
theorem cat_new {H0 H : Hp} {n p q : Addr} {xs ys : List V} (g : Gr H0 H) (_e : H n = some (.lst xs)) (hp : H p = none) (hq : (upd H p (.lst ys)) q = none) : Gr H0 (upd (upd H p (.lst ys)) q (.lst (xs ++ ys))) ∧ (upd (upd H p (.lst ys)) q (.lst (xs ++ ys))) q = some (.lst (xs ++ ys)) :=
  ⟨(g.trans (.new hp)).trans (.new hq), upd_same⟩
theorem cat_old {H : Hp} {n p q : Addr} {xs ys zs : List V} (e : H n = some (.lst xs)) (hp : H p = none) (hq : (upd H p (.lst ys)) q = none) : (upd (upd H p (.lst ys)) q (.lst zs)) n = some (.lst xs) := by
  have e1 : (upd H p (.lst ys)) n = some (.lst xs) := by rw [upd_ne (ne_of_none e hp)]; exact e
  rw [upd_ne (ne_of_none e1 hq)]
  exact e1
section
variable {P : Program} {w : World} {K : PySem.W.Frag} {mg : Str → Option Value} {base : Heap}
def spKinds (K : PySem.W.Frag) : Sp := fun vs H Q _ => ∃ (a dd : Addr) (fs : List (Str × V)) (x k : Str), vs = [.ref a] ∧ Exk H a (ga K x) dd fs ∧ x ∈ excL ∧ kdL.lookup x = some k ∧ ∀ H', Gr H H' → Q (.str k) H'
theorem sc_kinds : FnScope ["caught", "names", "held", "name", "told"] ["caught"] (defScope s_law_kinds) := ⟨rfl, rfl, rfl, by decide +kernel, rfl, by decide +kernel, by decide +kernel⟩
theorem ok_kinds (W : Wd K mg base) : FnP P w K mg base CX0 1 ("_law_kinds", none) ["caught"] (spKinds K) := by
  refine fnP_of (W.fn 25 _ rfl) sc_kinds (fun _ _ _ _ _ _ us hl => match us, hl with | [_], _ => rfl) (fun vs H Q E h => ?_) (fun A outer s H vs Q E hr h => ?_)
  · obtain ⟨a, dd, fs, x, k, rfl, _⟩ := h
    rfl
  · obtain ⟨a, dd, fs, x, k, rfl, ek, hx, hk, q⟩ := h
    have nZ : mg "zip" = none := W.free 51
    refine ⟨_, PSs.nox (pss_cons (ps_set (i := 1) sc_kinds.nd rfl (.inl rfl) (pe_lst (pa_cons pe_str (pa_cons pe_str (pa_cons pe_str (pa_cons pe_str (pa_cons pe_str (pa_cons pe_str (pa_cons pe_str (pa_cons pe_str (pa_cons pe_str (pa_cons pe_str pa_nil))))))))))))
      (pss_cons (ps_set (i := 1) sc_kinds.nd rfl (.inl rfl) (pe_op op_cat (pv 1) (pe_lst (pa_cons pe_str (pa_cons pe_str (pa_cons pe_str (pa_cons pe_str (pa_cons pe_str pa_nil))))))))
      (pss_cons (ps_set (i := 2) sc_kinds.nd rfl (.inl rfl) (pe_lst (pa_cons (pe_callB (call_isP W) (by rfl) W.nIsi (by decide +kernel) (pa_cons (pv 0) (pa_cons (pe_ga (W.glo 23)) pa_nil))) (pa_cons (pe_callB (call_isP W) (by rfl) W.nIsi (by decide +kernel) (pa_cons (pv 0) (pa_cons (pe_ga (W.glo 24)) pa_nil))) (pa_cons (pe_callB (call_isP W) (by rfl) W.nIsi (by decide +kernel) (pa_cons (pv 0) (pa_cons (pe_ga (W.glo 25)) pa_nil))) pa_nil)))))
      (pss_cons (ps_set (i := 2) sc_kinds.nd rfl (.inl rfl) (pe_op op_cat (pv 2) (pe_lst (pa_cons (pe_callB (call_isP W) (by rfl) W.nIsi (by decide +kernel) (pa_cons (pv 0) (pa_cons (pe_ga (W.glo 26)) pa_nil))) (pa_cons (pe_callB (call_isP W) (by rfl) W.nIsi (by decide +kernel) (pa_cons (pv 0) (pa_cons (pe_ga (W.glo 27)) pa_nil))) pa_nil)))))
      (pss_cons (ps_set (i := 2) sc_kinds.nd rfl (.inl rfl) (pe_op op_cat (pv 2) (pe_lst (pa_cons (pe_callB (call_isP W) (by rfl) W.nIsi (by decide +kernel) (pa_cons (pv 0) (pa_cons (pe_ga (W.glo 28)) pa_nil))) (pa_cons (pe_callB (call_isP W) (by rfl) W.nIsi (by decide +kernel) (pa_cons (pv 0) (pa_cons (pe_ga (W.glo 29)) pa_nil))) pa_nil)))))
      (pss_cons (ps_set (i := 2) sc_kinds.nd rfl (.inl rfl) (pe_op op_cat (pv 2) (pe_lst (pa_cons (pe_callB (call_isP W) (by rfl) W.nIsi (by decide +kernel) (pa_cons (pv 0) (pa_cons (pe_ga (W.glo 30)) pa_nil))) (pa_cons (pe_callB (call_isP W) (by rfl) W.nIsi (by decide +kernel) (pa_cons (pv 0) (pa_cons (pe_ga (W.glo 31)) pa_nil))) pa_nil)))))
      (pss_cons (ps_set (i := 2) sc_kinds.nd rfl (.inl rfl) (pe_op op_cat (pv 2) (pe_lst (pa_cons (pe_callB (call_isP W) (by rfl) W.nIsi (by decide +kernel) (pa_cons (pv 0) (pa_cons (pe_ga (W.glo 32)) pa_nil))) (pa_cons (pe_callB (call_isP W) (by rfl) W.nIsi (by decide +kernel) (pa_cons (pv 0) (pa_cons (pe_ga (W.glo 33)) pa_nil))) pa_nil)))))
      (pss_cons (ps_set (i := 2) sc_kinds.nd rfl (.inl rfl) (pe_op op_cat (pv 2) (pe_lst (pa_cons (pe_callB (call_isP W) (by rfl) W.nIsi (by decide +kernel) (pa_cons (pv 0) (pa_cons (pe_ga (W.glo 34)) pa_nil))) (pa_cons (pe_callB (call_isP W) (by rfl) W.nIsi (by decide +kernel) (pa_cons (pv 0) (pa_cons (pe_ga (W.glo 35)) pa_nil))) (pa_cons (pe_callB (call_isP W) (by rfl) W.nIsi (by decide +kernel) (pa_cons (pv 0) (pa_cons (pe_ga (W.glo 36)) pa_nil))) pa_nil))))))
      (pss_cons (ps_set (i := 2) sc_kinds.nd rfl (.inl rfl) (pe_op op_cat (pv 2) (pe_lst (pa_cons (pe_callB (call_isP W) (by rfl) W.nIsi (by decide +kernel) (pa_cons (pv 0) (pa_cons (pe_ga (W.glo 37)) pa_nil))) pa_nil))))
      (pss_one (ps_ret (pe_join pe_str (pe_lc (own := [("name", 3), ("told", 4)]) (g := gTup K 2 (gCons (gName 3) (gCons (gName 4) gNil))) (tt := tB (tVar 4)) rfl sc_kinds.nd (pi_zip (by rfl) nZ (pa_cons (pv 1) (pa_cons (pv 2) pa_nil))) (blkOk_by (by kernel_rfl)) (fun _ _ _ _ _ => pg_tup (n := 2) rfl (pgs_cons (pg_name (i := 3) sc_kinds.nd rfl (Or.inl rfl)) (pgs_cons (pg_name (i := 4) sc_kinds.nd rfl (Or.inl rfl)) pgs_nil))) (fun _ _ _ _ _ => pts_one (pt_val (pv 4))) (fun _ _ _ _ _ => pv 3)))))))))))))), ?_⟩
    refine ⟨by simp [sizeLine_eq], fun n1 hn1 => ?_⟩
    have e1 : (upd H n1 (.lst [V.str "answer", V.str "count", V.str "grammar", V.str "machine", V.str "name", V.str "number", V.str "pair", V.str "prices", V.str "saying", V.str "variables"])) n1 = some (.lst [V.str "answer", V.str "count", V.str "grammar", V.str "machine", V.str "name", V.str "number", V.str "pair", V.str "prices", V.str "saying", V.str "variables"]) := upd_same
    have g1 : Gr H (upd H n1 (.lst [V.str "answer", V.str "count", V.str "grammar", V.str "machine", V.str "name", V.str "number", V.str "pair", V.str "prices", V.str "saying", V.str "variables"])) := .new hn1
    generalize upd H n1 (.lst [V.str "answer", V.str "count", V.str "grammar", V.str "machine", V.str "name", V.str "number", V.str "pair", V.str "prices", V.str "saying", V.str "variables"]) = H1 at e1 g1 ⊢
    refine ⟨.ref n1, rfl, by simp [sizeLine_eq], fun n2 hn2 => ⟨n1, n2, _, _, rfl, rfl, by rw [upd_ne (ne_of_none e1 hn2)]; exact e1, upd_same, by simp [sizeLine_eq], fun n3 hn3 => ?_⟩⟩
    obtain ⟨g2, e2⟩ := cat_new (ys := [V.str "nothing", V.str "many", V.str "unknown", V.str "unorderly", V.str "unreadable"]) g1 e1 hn2 hn3
    generalize upd (upd H1 n2 (.lst [V.str "nothing", V.str "many", V.str "unknown", V.str "unorderly", V.str "unreadable"])) n3 (.lst ([V.str "answer", V.str "count", V.str "grammar", V.str "machine", V.str "name", V.str "number", V.str "pair", V.str "prices", V.str "saying", V.str "variables"] ++ [V.str "nothing", V.str "many", V.str "unknown", V.str "unorderly", V.str "unreadable"])) = H2 at g2 e2 ⊢
    refine ⟨.ref a, rfl, a, dd, fs, x, "InvalidAnswer", rfl, ek.gr g2, hx, by decide, .ref a, rfl, a, dd, fs, x, "InvalidCount", rfl, ek.gr g2, hx, by decide, .ref a, rfl, a, dd, fs, x, "InvalidGrammar", rfl, ek.gr g2, hx, by decide, by simp [sizeLine_eq], fun h3 hh3 => ?_⟩
    have e3 : (upd H2 h3 (.lst [V.bl (decide (x = "InvalidAnswer")), V.bl (decide (x = "InvalidCount")), V.bl (decide (x = "InvalidGrammar"))])) h3 = some (.lst [V.bl (decide (x = "InvalidAnswer")), V.bl (decide (x = "InvalidCount")), V.bl (decide (x = "InvalidGrammar"))]) := upd_same
    have k3 : (upd H2 h3 (.lst [V.bl (decide (x = "InvalidAnswer")), V.bl (decide (x = "InvalidCount")), V.bl (decide (x = "InvalidGrammar"))])) n3 = some (.lst ([V.str "answer", V.str "count", V.str "grammar", V.str "machine", V.str "name", V.str "number", V.str "pair", V.str "prices", V.str "saying", V.str "variables"] ++ [V.str "nothing", V.str "many", V.str "unknown", V.str "unorderly", V.str "unreadable"])) := by rw [upd_ne (ne_of_none e2 hh3)]; exact e2
    have g3 : Gr H (upd H2 h3 (.lst [V.bl (decide (x = "InvalidAnswer")), V.bl (decide (x = "InvalidCount")), V.bl (decide (x = "InvalidGrammar"))])) := g2.trans (.new hh3)
    generalize upd H2 h3 (.lst [V.bl (decide (x = "InvalidAnswer")), V.bl (decide (x = "InvalidCount")), V.bl (decide (x = "InvalidGrammar"))]) = H3 at e3 k3 g3 ⊢
    refine ⟨.ref h3, rfl, .ref a, rfl, a, dd, fs, x, "InvalidMachine", rfl, ek.gr g3, hx, by decide, .ref a, rfl, a, dd, fs, x, "InvalidName", rfl, ek.gr g3, hx, by decide, by simp [sizeLine_eq], fun p4 hp4 => ⟨h3, p4, _, _, rfl, rfl, by rw [upd_ne (ne_of_none e3 hp4)]; exact e3, upd_same, by simp [sizeLine_eq], fun h4 hh4 => ?_⟩⟩
    obtain ⟨g4, e4⟩ := cat_new (ys := [V.bl (decide (x = "InvalidMachine")), V.bl (decide (x = "InvalidName"))]) g3 e3 hp4 hh4
    have k4 := cat_old (ys := [V.bl (decide (x = "InvalidMachine")), V.bl (decide (x = "InvalidName"))]) (zs := [V.bl (decide (x = "InvalidAnswer")), V.bl (decide (x = "InvalidCount")), V.bl (decide (x = "InvalidGrammar"))] ++ [V.bl (decide (x = "InvalidMachine")), V.bl (decide (x = "InvalidName"))]) k3 hp4 hh4
    generalize upd (upd H3 p4 (.lst [V.bl (decide (x = "InvalidMachine")), V.bl (decide (x = "InvalidName"))])) h4 (.lst ([V.bl (decide (x = "InvalidAnswer")), V.bl (decide (x = "InvalidCount")), V.bl (decide (x = "InvalidGrammar"))] ++ [V.bl (decide (x = "InvalidMachine")), V.bl (decide (x = "InvalidName"))])) = H4 at g4 e4 k4 ⊢
    refine ⟨.ref h4, rfl, .ref a, rfl, a, dd, fs, x, "InvalidNumber", rfl, ek.gr g4, hx, by decide, .ref a, rfl, a, dd, fs, x, "InvalidPair", rfl, ek.gr g4, hx, by decide, by simp [sizeLine_eq], fun p5 hp5 => ⟨h4, p5, _, _, rfl, rfl, by rw [upd_ne (ne_of_none e4 hp5)]; exact e4, upd_same, by simp [sizeLine_eq], fun h5 hh5 => ?_⟩⟩
    obtain ⟨g5, e5⟩ := cat_new (ys := [V.bl (decide (x = "InvalidNumber")), V.bl (decide (x = "InvalidPair"))]) g4 e4 hp5 hh5
    have k5 := cat_old (ys := [V.bl (decide (x = "InvalidNumber")), V.bl (decide (x = "InvalidPair"))]) (zs := ([V.bl (decide (x = "InvalidAnswer")), V.bl (decide (x = "InvalidCount")), V.bl (decide (x = "InvalidGrammar"))] ++ [V.bl (decide (x = "InvalidMachine")), V.bl (decide (x = "InvalidName"))]) ++ [V.bl (decide (x = "InvalidNumber")), V.bl (decide (x = "InvalidPair"))]) k4 hp5 hh5
    generalize upd (upd H4 p5 (.lst [V.bl (decide (x = "InvalidNumber")), V.bl (decide (x = "InvalidPair"))])) h5 (.lst (([V.bl (decide (x = "InvalidAnswer")), V.bl (decide (x = "InvalidCount")), V.bl (decide (x = "InvalidGrammar"))] ++ [V.bl (decide (x = "InvalidMachine")), V.bl (decide (x = "InvalidName"))]) ++ [V.bl (decide (x = "InvalidNumber")), V.bl (decide (x = "InvalidPair"))])) = H5 at g5 e5 k5 ⊢
    refine ⟨.ref h5, rfl, .ref a, rfl, a, dd, fs, x, "InvalidPrices", rfl, ek.gr g5, hx, by decide, .ref a, rfl, a, dd, fs, x, "InvalidSaying", rfl, ek.gr g5, hx, by decide, by simp [sizeLine_eq], fun p6 hp6 => ⟨h5, p6, _, _, rfl, rfl, by rw [upd_ne (ne_of_none e5 hp6)]; exact e5, upd_same, by simp [sizeLine_eq], fun h6 hh6 => ?_⟩⟩
    obtain ⟨g6, e6⟩ := cat_new (ys := [V.bl (decide (x = "InvalidPrices")), V.bl (decide (x = "InvalidSaying"))]) g5 e5 hp6 hh6
    have k6 := cat_old (ys := [V.bl (decide (x = "InvalidPrices")), V.bl (decide (x = "InvalidSaying"))]) (zs := (([V.bl (decide (x = "InvalidAnswer")), V.bl (decide (x = "InvalidCount")), V.bl (decide (x = "InvalidGrammar"))] ++ [V.bl (decide (x = "InvalidMachine")), V.bl (decide (x = "InvalidName"))]) ++ [V.bl (decide (x = "InvalidNumber")), V.bl (decide (x = "InvalidPair"))]) ++ [V.bl (decide (x = "InvalidPrices")), V.bl (decide (x = "InvalidSaying"))]) k5 hp6 hh6
    generalize upd (upd H5 p6 (.lst [V.bl (decide (x = "InvalidPrices")), V.bl (decide (x = "InvalidSaying"))])) h6 (.lst ((([V.bl (decide (x = "InvalidAnswer")), V.bl (decide (x = "InvalidCount")), V.bl (decide (x = "InvalidGrammar"))] ++ [V.bl (decide (x = "InvalidMachine")), V.bl (decide (x = "InvalidName"))]) ++ [V.bl (decide (x = "InvalidNumber")), V.bl (decide (x = "InvalidPair"))]) ++ [V.bl (decide (x = "InvalidPrices")), V.bl (decide (x = "InvalidSaying"))])) = H6 at g6 e6 k6 ⊢
    refine ⟨.ref h6, rfl, .ref a, rfl, a, dd, fs, x, "InvalidVariables", rfl, ek.gr g6, hx, by decide, .ref a, rfl, a, dd, fs, x, "NothingToUndo", rfl, ek.gr g6, hx, by decide, by simp [sizeLine_eq], fun p7 hp7 => ⟨h6, p7, _, _, rfl, rfl, by rw [upd_ne (ne_of_none e6 hp7)]; exact e6, upd_same, by simp [sizeLine_eq], fun h7 hh7 => ?_⟩⟩
    obtain ⟨g7, e7⟩ := cat_new (ys := [V.bl (decide (x = "InvalidVariables")), V.bl (decide (x = "NothingToUndo"))]) g6 e6 hp7 hh7
    have k7 := cat_old (ys := [V.bl (decide (x = "InvalidVariables")), V.bl (decide (x = "NothingToUndo"))]) (zs := ((([V.bl (decide (x = "InvalidAnswer")), V.bl (decide (x = "InvalidCount")), V.bl (decide (x = "InvalidGrammar"))] ++ [V.bl (decide (x = "InvalidMachine")), V.bl (decide (x = "InvalidName"))]) ++ [V.bl (decide (x = "InvalidNumber")), V.bl (decide (x = "InvalidPair"))]) ++ [V.bl (decide (x = "InvalidPrices")), V.bl (decide (x = "InvalidSaying"))]) ++ [V.bl (decide (x = "InvalidVariables")), V.bl (decide (x = "NothingToUndo"))]) k6 hp7 hh7
    generalize upd (upd H6 p7 (.lst [V.bl (decide (x = "InvalidVariables")), V.bl (decide (x = "NothingToUndo"))])) h7 (.lst (((([V.bl (decide (x = "InvalidAnswer")), V.bl (decide (x = "InvalidCount")), V.bl (decide (x = "InvalidGrammar"))] ++ [V.bl (decide (x = "InvalidMachine")), V.bl (decide (x = "InvalidName"))]) ++ [V.bl (decide (x = "InvalidNumber")), V.bl (decide (x = "InvalidPair"))]) ++ [V.bl (decide (x = "InvalidPrices")), V.bl (decide (x = "InvalidSaying"))]) ++ [V.bl (decide (x = "InvalidVariables")), V.bl (decide (x = "NothingToUndo"))])) = H7 at g7 e7 k7 ⊢
    refine ⟨.ref h7, rfl, .ref a, rfl, a, dd, fs, x, "TooMany", rfl, ek.gr g7, hx, by decide, .ref a, rfl, a, dd, fs, x, "UnknownName", rfl, ek.gr g7, hx, by decide, .ref a, rfl, a, dd, fs, x, "Unorderly", rfl, ek.gr g7, hx, by decide, by simp [sizeLine_eq], fun p8 hp8 => ⟨h7, p8, _, _, rfl, rfl, by rw [upd_ne (ne_of_none e7 hp8)]; exact e7, upd_same, by simp [sizeLine_eq], fun h8 hh8 => ?_⟩⟩
    obtain ⟨g8, e8⟩ := cat_new (ys := [V.bl (decide (x = "TooMany")), V.bl (decide (x = "UnknownName")), V.bl (decide (x = "Unorderly"))]) g7 e7 hp8 hh8
    have k8 := cat_old (ys := [V.bl (decide (x = "TooMany")), V.bl (decide (x = "UnknownName")), V.bl (decide (x = "Unorderly"))]) (zs := (((([V.bl (decide (x = "InvalidAnswer")), V.bl (decide (x = "InvalidCount")), V.bl (decide (x = "InvalidGrammar"))] ++ [V.bl (decide (x = "InvalidMachine")), V.bl (decide (x = "InvalidName"))]) ++ [V.bl (decide (x = "InvalidNumber")), V.bl (decide (x = "InvalidPair"))]) ++ [V.bl (decide (x = "InvalidPrices")), V.bl (decide (x = "InvalidSaying"))]) ++ [V.bl (decide (x = "InvalidVariables")), V.bl (decide (x = "NothingToUndo"))]) ++ [V.bl (decide (x = "TooMany")), V.bl (decide (x = "UnknownName")), V.bl (decide (x = "Unorderly"))]) k7 hp8 hh8
    generalize upd (upd H7 p8 (.lst [V.bl (decide (x = "TooMany")), V.bl (decide (x = "UnknownName")), V.bl (decide (x = "Unorderly"))])) h8 (.lst ((((([V.bl (decide (x = "InvalidAnswer")), V.bl (decide (x = "InvalidCount")), V.bl (decide (x = "InvalidGrammar"))] ++ [V.bl (decide (x = "InvalidMachine")), V.bl (decide (x = "InvalidName"))]) ++ [V.bl (decide (x = "InvalidNumber")), V.bl (decide (x = "InvalidPair"))]) ++ [V.bl (decide (x = "InvalidPrices")), V.bl (decide (x = "InvalidSaying"))]) ++ [V.bl (decide (x = "InvalidVariables")), V.bl (decide (x = "NothingToUndo"))]) ++ [V.bl (decide (x = "TooMany")), V.bl (decide (x = "UnknownName")), V.bl (decide (x = "Unorderly"))])) = H8 at g8 e8 k8 ⊢
    refine ⟨.ref h8, rfl, .ref a, rfl, a, dd, fs, x, "Unreadable", rfl, ek.gr g8, hx, by decide, by simp [sizeLine_eq], fun p9 hp9 => ⟨h8, p9, _, _, rfl, rfl, by rw [upd_ne (ne_of_none e8 hp9)]; exact e8, upd_same, by simp [sizeLine_eq], fun h9 hh9 => ?_⟩⟩
    obtain ⟨g9, e9⟩ := cat_new (ys := [V.bl (decide (x = "Unreadable"))]) g8 e8 hp9 hh9
    have k9 := cat_old (ys := [V.bl (decide (x = "Unreadable"))]) (zs := ((((([V.bl (decide (x = "InvalidAnswer")), V.bl (decide (x = "InvalidCount")), V.bl (decide (x = "InvalidGrammar"))] ++ [V.bl (decide (x = "InvalidMachine")), V.bl (decide (x = "InvalidName"))]) ++ [V.bl (decide (x = "InvalidNumber")), V.bl (decide (x = "InvalidPair"))]) ++ [V.bl (decide (x = "InvalidPrices")), V.bl (decide (x = "InvalidSaying"))]) ++ [V.bl (decide (x = "InvalidVariables")), V.bl (decide (x = "NothingToUndo"))]) ++ [V.bl (decide (x = "TooMany")), V.bl (decide (x = "UnknownName")), V.bl (decide (x = "Unorderly"))]) ++ [V.bl (decide (x = "Unreadable"))]) k8 hp9 hh9
    generalize upd (upd H8 p9 (.lst [V.bl (decide (x = "Unreadable"))])) h9 (.lst (((((([V.bl (decide (x = "InvalidAnswer")), V.bl (decide (x = "InvalidCount")), V.bl (decide (x = "InvalidGrammar"))] ++ [V.bl (decide (x = "InvalidMachine")), V.bl (decide (x = "InvalidName"))]) ++ [V.bl (decide (x = "InvalidNumber")), V.bl (decide (x = "InvalidPair"))]) ++ [V.bl (decide (x = "InvalidPrices")), V.bl (decide (x = "InvalidSaying"))]) ++ [V.bl (decide (x = "InvalidVariables")), V.bl (decide (x = "NothingToUndo"))]) ++ [V.bl (decide (x = "TooMany")), V.bl (decide (x = "UnknownName")), V.bl (decide (x = "Unorderly"))]) ++ [V.bl (decide (x = "Unreadable"))])) = H9 at g9 e9 k9 ⊢
    have eA : H9 n3 = some (.lst (kdL.map fun p => V.str p.2)) := k9
    have eB : H9 h9 = some (.lst (kdL.map fun p => V.bl (decide (x = p.1)))) := e9
    clear e9 k9
    refine ⟨⟨_, rfl⟩, .ref n3, rfl, .ref h9, rfl, n3, h9, _, _, rfl, SqL.of eA, SqL.of eB, fun D hD => ?_⟩
    have nA := ne_of_none eA hD
    have nB := ne_of_none eB hD
    refine lc_it (walk_zip (K := K) (a := n3) (b := h9) (xs := kdL.map fun p => V.str p.2) (ys := kdL.map fun p => V.bl (decide (x = p.1))) (n := 15) rfl)
      (fun i Hc => GrX [D] H9 Hc ∧ Hc n3 = some (.lst (kdL.map fun p => V.str p.2)) ∧ Hc h9 = some (.lst (kdL.map fun p => V.bl (decide (x = p.1)))) ∧ Hc D = some (.lst ((((kdL.take i).filter fun p => decide (x = p.1)).map fun p => p.2).map V.str)))
      ⟨grx_new' (grx_refl _ _) hD, by rw [upd_ne nA]; exact eA, by rw [upd_ne nB]; exact eB, upd_same⟩ (fun i Hc _ hP => ⟨SqL.of hP.2.1, SqL.of hP.2.2.1⟩) (fun i v Hc H' hi hP hY => ?_) (fun Hc hP => ?_)
    · obtain ⟨q1, q2, q3, q4⟩ := hP
      obtain ⟨T, xv, yv, rfl, hT, rfl, hx1, hy1⟩ := hY
      obtain ⟨p, hp⟩ : ∃ p, kdL[i]? = some p := ⟨_, List.getElem?_eq_getElem hi⟩
      have hx1 : (kdL.map fun p => V.str p.2)[i]? = some xv := hx1
      have hy1 : (kdL.map fun p => V.bl (decide (x = p.1)))[i]? = some yv := hy1
      rw [List.getElem?_map, hp] at hx1 hy1
      cases hx1
      cases hy1
      have nT : D ≠ T := ne_of_none q4 hT
      have tk : kdL.take (i + 1) = kdL.take i ++ [p] := by rw [List.take_add_one, hp]; rfl
      have r1 : GrX [D] H9 (upd Hc T (.tup [V.str p.2, V.bl (decide (x = p.1))])) := grx_new' q1 hT
      have r2 : (upd Hc T (.tup [V.str p.2, V.bl (decide (x = p.1))])) n3 = some (.lst (kdL.map fun p => V.str p.2)) := by rw [upd_ne (ne_of_none q2 hT)]; exact q2
      have r3 : (upd Hc T (.tup [V.str p.2, V.bl (decide (x = p.1))])) h9 = some (.lst (kdL.map fun p => V.bl (decide (x = p.1)))) := by rw [upd_ne (ne_of_none q3 hT)]; exact q3
      have r4 : (upd Hc T (.tup [V.str p.2, V.bl (decide (x = p.1))])) D = some (.lst ((((kdL.take i).filter fun p => decide (x = p.1)).map fun p => p.2).map V.str)) := by rw [upd_ne nT]; exact q4
      refine ⟨T, _, rfl, SqT.of upd_same, rfl, _, _, rfl, _, _, rfl, rfl, rfl, .bl (decide (x = p.1)), rfl, _, rfl, ?_⟩
      by_cases hxp : x = p.1
      · rw [decide_eq_true hxp]
        have len : ((((kdL.take i).filter fun p => decide (x = p.1)).map fun p => p.2).map V.str).length < sizeLine := by
          have l1 := List.length_filter_le (fun p : Str × Str => decide (x = p.1)) (kdL.take i)
          have l2 : (kdL.take i).length ≤ 15 := by rw [List.length_take]; exact Nat.min_le_right ..
          rw [List.length_map, List.length_map, sizeLine_eq]
          omega
        refine ⟨.str p.2, rfl, _, r4, len, r1.trans (GrX.upd (S := [D]) (by simp) r4 (fun ps q => by cases q)), ?_, ?_, ?_⟩
        · rw [upd_ne nA]; exact r2
        · rw [upd_ne nB]; exact r3
        · rw [upd_same, tk, List.filter_append]
          simp [hxp]
      · rw [decide_eq_false hxp]
        refine ⟨r1, r2, r3, ?_⟩
        rw [r4, tk, List.filter_append]
        simp [hxp]
    · obtain ⟨q1, q2, q3, q4⟩ := hP
      have one : ((((kdL.take 15).filter fun p => decide (x = p.1)).map fun p => p.2).map V.str) = [k].map V.str := by
        have z := List.all_eq_true.mp kd_one x hx
        rw [hk] at z
        have z2 := of_decide_eq_true z
        rw [show kdL.take 15 = kdL from rfl, z2]
        rfl
      rw [one] at q4
      exact ⟨" ", D, [k], rfl, rfl, .inl (SqL.of q4), shortK x hx k hk, q _ (g9.trans (grx_gr q1 hD))⟩
end
end K74
/-! ## Kt -/
set_option Elab.async false
set_option linter.all false
set_option maxRecDepth 100000
set_option maxHeartbeats 4000000
namespace K74
open PySem PySem.Spec PyProof.Rows L2 He Kx Gx GxR
/-- a def's promise where no repr is under way -/
structure FnG (P : Program) (w : World) (K : PySem.W.Frag) (mg : Str → Option Value) (base : Heap) (CX : CXT) (k : Nat) (f : Addr) (fd : FuncData) (ps : List Str) (sp : Sp) : Prop where
  len : ∀ vs H Q E, sp vs H Q E → vs.length = ps.length
  run : ∀ (A : Around) (outer : List Env) (s : Shared) (H : Hp) (args : Args) (us : List Value) (vs : List V) (Q : VK) (E : XK), Room k A → A.guards = some [] → Env0 P w K mg base A outer s H → BindsTo s fd args (ps.zip us) → Vals vs us → sp vs H Q E →
    codeAny (model P w) A (.call (.ref f) args) (CR CX outer P w H s Q E) s
theorem fnG_of {CX : CXT} {P : Program} {w : World} {K : PySem.W.Frag} {mg : Str → Option Value} {base : Heap} {k : Nat} {f : Addr} {name qual : Str} {params : Arguments} {body : List Stmt} {scope : Scope} {dV kV doc pm cdv ct oc : Value} {an od : Option Addr}
    {osl : Array (Option Value)} {N ps : List Str} {sp : Sp} (lk : K.lookup f = some ⟨oc, od, .func (PySem.W.fnOf name qual params body scope dV kV doc pm an cdv ct), osl⟩) (hcd : PySem.W.codeIn K cdv qual = true) (S : FnScope N ps scope) (len : ∀ vs H Q E, sp vs H Q E → vs.length = ps.length)
    (hbody : ∀ (A : Around) (outer : List Env) (s : Shared) (H : Hp) (vs : List V) (Q : VK) (E : XK), Room k (A.deeper (envOfC qual scope s.heap.objs.size f cdv)) → (A.deeper (envOfC qual scope s.heap.objs.size f cdv)).guards = some [] → sp vs H Q E →
      ∃ t, PSs (cxOf CX P w K mg base N qual scope f cdv A outer s H E) body t ∧ t { nx := fun _ H' => Q .non H', rt := Q } (start N vs) H) :
    FnG P w K mg base CX (k + 1) f (PySem.W.fnOf name qual params body scope dV kV doc pm an cdv ct) ps sp := by
  refine ⟨len, fun A outer s H args us vs Q E hr hG e0 hb r hsp => ?_⟩
  obtain ⟨t, ht, hq⟩ := hbody A outer s H vs Q E (hr.deeper _) hG hsp
  -- the walk of this one Around, told as a def's promise
  have hl := len _ _ _ _ hsp
  have KX : K.In s.heap := fun b o e => (e0.bs b o (e0.mod.kin b o e)).1
  refine codeAny_call_function hr.depth (KX _ _ lk) rfl S.co S.gen rfl (PySem.W.codeRec_of KX hcd) (hb _ _ _ _ (wpAny_newFunctionEnv_cells S.kind (fun y hy => ?_) fun env he s1 x => ?_))
  · rcases S.par y.1 (List.of_mem_zip hy).1 with q | q
    · exact .inl q
    · exact .inr ⟨q, PySem.W.cellsFrom_some _ _ _ (.inl q)⟩
  · subst he
    refine ⟨(e0.mod.nolimit.keeps fun b o e => (e0.bs b o e).1).keeps x.toInCall.keep, codeAny_func (wpAny_mono (ht.run [] s1 (start N vs) H _ (inv_start S hr.hd e0 hl r x) hq) (fun fl s' hs => ?_) fun e s' hs => hs)⟩
    cases fl with
    | ret u => obtain ⟨v, σ', H', J, rv, q⟩ := hs; exact ⟨v, H', J.os, J.bare, J.base, J.hok, rv, q⟩
    | next => obtain ⟨σ', H', J, q⟩ := hs; exact ⟨V.non, H', J.os, J.bare, J.base, J.hok, rfl, q⟩
    | brk => obtain ⟨_, _, _, q⟩ := hs; exact q.elim
    | cont => obtain ⟨_, _, _, q⟩ := hs; exact q.elim
theorem run_fnG {X : Cx} {CX : CXT} {k : Nat} {f : Addr} {fd : FuncData} {ps : List Str} {sp : Sp} {E : XK} {pins : List (Addr × Obj)} {σ : L2.St} {H : Hp} {s : Shared} {Q : VK} {us : List Value} {vs : List V} (F : FnG X.prog X.w X.K X.mg X.base CX k f fd ps sp) (hr : Room k X.A) (hG : X.A.guards = some []) (hb : Binds X.K fd ps []) (hx : Passes CX X E)
    (I : Inv X pins σ H s) (r : Vals vs us) (h : sp vs H Q E) : wpAny (model X.prog X.w) X.A (call (.ref f) us) (EP X pins σ Q) X.xe s := by
  have hl : (us ++ []).length = ps.length := by rw [List.append_nil, ← Paired.length r]; exact F.len _ _ _ _ h
  have b := hb s us I.kIn hl
  rw [List.append_nil] at b
  refine wpAny_call (codeAny_mono (F.run X.A X.stack s H ⟨us, []⟩ us vs Q E hr hG I.env0 b r h) fun z s' hq => ?_)
  cases z with
  | error e => exact hx pins σ H s e s' I hq
  | ok fl =>
    cases fl with
    | ret u => exact I.after hq
    | next => exact hq.elim
    | brk => exact hq.elim
    | cont => exact hq.elim
/-- f(e, ..), f as FnG tells -/
theorem pe_callG {X : Cx} {CX : CXT} {x : Str} {k : Nat} {f : Addr} {fd : FuncData} {ps : List Str} {sp : Sp} {E : XK} {e : Expr} {es : List Expr} {t : TA} {p pos : Pos} (F : FnG X.prog X.w X.K X.mg X.base CX k f fd ps sp) (hr : Room k X.A) (hG : X.A.guards = some []) (hm : X.mg x = some (.ref f)) (hk : PySem.W.keepIn X.K (.ref f) = true) (hb : Binds X.K fd ps []) (hx : Passes CX X E) (ha : PA X (e :: es) t)
    (hg : Gl X x := by rfl) (hdb : (x == ("__debug__" : Str)) = false := by decide) (he : starEach (e :: es) X.env = (false, eval e X.env) :: starEach es X.env := by rfl) (hpl : (backTo pos (starEach es X.env)).any (·.1) = false := by rfl) :
    PE X (.Call (.Name x p) (e :: es) [] pos) (tCall sp [] E t) :=
  ⟨fun pins s σ H Q I h => wpAny_Call_Name_kw (ld_glob I hg hm (PySem.W.callWith_K (h₀ := X.base) I.ok.mod.kin hk (thn (ha.run pos pins s σ H _ I h) fun us s1 ⟨vs, H1, I1, r, q⟩ => ⟨I1.kIn, run_fnG F hr hG hb hx I1 r ((congrArg (fun z => sp z H1 Q E) (List.append_nil vs)).mp q)⟩) he hpl) hdb)⟩
end K74
/-! ## Ku -/
set_option Elab.async false
set_option linter.all false
set_option maxRecDepth 100000
set_option maxHeartbeats 4000000
namespace K74
open PySem PySem.Spec PyProof.Rows L2 He Kx Gx GxR
/-! ### repr of data -/
/-- data whose text is short -/
structure ShowD (d : PyData) : Prop where
  sh : d.showable = true
  nd : d.hasDict = false
  dp : d.depth < 64
  sz : d.shown.length ≤ sizeLine
def rReprD (K : PySem.W.Frag) : List V → Hp → VK → Prop := fun xs H Q => ∃ (v : V) (d : PyData), xs = [v] ∧ Dp K H v d ∧ ShowD d ∧ Q (.str d.shown) H
theorem call_reprD {X : Cx} (hG : X.A.guards = some []) (hu : X.A.units + 70 < cLine) : CallR X (.builtin "repr") (rReprD X.K) := by
  intro pins s σ H xs us Q I r h
  obtain ⟨v, d, rfl, hd, ⟨hs, hn, hdp, hz⟩, q⟩ := h
  cases r with
  | cons rx rr =>
    cases rr
    obtain ⟨as, rd⟩ := Dp.reads I d v _ hd rx
    cases hd with
    | non =>
      cases rx
      exact PySem.P.repr_of_none ⟨.str _, H, I.tok _, ⟨_, rfl⟩, q⟩
    | bl b =>
      cases rx
      exact PySem.P.repr_of_bool ⟨.str _, H, I.tok _, ⟨_, rfl⟩, q⟩
    | int i =>
      obtain ⟨t, rfl⟩ := rx
      have hs' : decide (i.natAbs.log2 < 1920) = true := hs
      exact PySem.P.repr_of_int (of_decide_eq_true hs') ⟨.str _, H, I.tok _, ⟨_, rfl⟩, q⟩
    | str x =>
      obtain ⟨t, rfl⟩ := rx
      exact PySem.P.repr_of_str ⟨.str _, H, I.tok _, ⟨_, rfl⟩, q⟩ hz
    | lst h a =>
      cases rx
      exact repr_of_reads' rd hs (PyData.noDict_hsm hn) hG (by omega) (fun _ _ e => e) (fun h' u tk hk => ⟨.str _, H, I.kept (t' := tk) hk, ⟨_, rfl⟩, q⟩) hz
    | tup h a =>
      cases rx
      exact repr_of_reads' rd hs (PyData.noDict_hsm hn) hG (by omega) (fun _ _ e => e) (fun h' u tk hk => ⟨.str _, H, I.kept (t' := tk) hk, ⟨_, rfl⟩, q⟩) hz
/-- isinstance(e, ValueError), e a kept error of the package -/
def rIsV (K : PySem.W.Frag) : List V → Hp → VK → Prop := fun xs H Q => ∃ (a dd : Addr) (fs : List (Str × V)) (x : Str), xs = [.ref a, .ty "ValueError"] ∧ Exk H a (ga K x) dd fs ∧ x ∈ excL ∧ Q (.bl true) H
theorem call_isV {X : Cx} (W : Wd X.K X.mg X.base) : CallR X (.builtin "isinstance") (rIsV X.K) := by
  intro pins s σ H xs us Q I r h
  obtain ⟨a, dd, fs, x, rfl, ek, hx, q⟩ := h
  have F := W.exF hx
  exact call_isX pins s σ H _ us Q I r ⟨a, _, dd, fs, _, .type "ValueError", _, rfl, ek, F.exc, fun u ru => ru, F.kitV, q⟩
section
variable {P : Program} {w : World} {K : PySem.W.Frag} {mg : Str → Option Value} {base : Heap}
/-! ### defs that ask for no repr under way -/
def FnGP (P : Program) (w : World) (K : PySem.W.Frag) (mg : Str → Option Value) (base : Heap) (CX : CXT) (k : Nat) (p : Defn) (ps : List Str) (sp : Sp) : Prop :=
  ∃ fd, FnG P w K mg base CX k (fAd K p) fd ps sp ∧ Binds K fd ps [] ∧ (PySem.W.keepIn K (.ref (fAd K p)) = true ∧ FdAt K p fd)
theorem fnGP_of {CX : CXT} {x q : Str} {st : Stmt} {p : Defn} {N ps : List Str} {k : Nat} {sp : Sp} (F0 : FD K x q st p) (S : FnScope N ps (defScope st))
    (hb : ∀ (kV doc pm : Value) (an : Option Addr) (cdv ct : Value) (us : List Value), us.length = ps.length → bindArgs (PySem.W.fnOf x q (defArgs st) (defBody st) (defScope st) .none kV doc pm an cdv ct) ⟨us, []⟩ = pure (ps.zip us))
    (len : ∀ vs H Q E, sp vs H Q E → vs.length = ps.length)
    (hbody : ∀ (A : Around) (outer : List Env) (s : Shared) (H : Hp) (vs : List V) (Q : VK) (E : XK), Room k (A.deeper (envOfC q (defScope st) s.heap.objs.size (fAd K p) (.ref (codeOf K p)))) → A.guards = some [] → sp vs H Q E →
      ∃ t, PSs (cxOf CX P w K mg base N q (defScope st) (fAd K p) (.ref (codeOf K p)) A outer s H E) (defBody st) t ∧ t { nx := fun _ H' => Q .non H', rt := Q } (start N vs) H) :
    FnGP P w K mg base CX (k + 1) p ps sp := by
  obtain ⟨fd, F⟩ := F0
  have B := F.bindsN hb
  have kp := F.kp
  obtain ⟨oc, od, dV, kV, doc, pm, an, cdv, ct, osl, rfl, lk, hcd, _, _⟩ := F.ex
  obtain ⟨c, rfl⟩ := codeIn_ref hcd
  have ec : codeOf K p = c := codeOf_eq lk rfl
  refine ⟨_, fnG_of lk hcd S len fun A outer s H vs Q E hr hG hsp => ?_, B, kp, _, _, _, lk⟩
  have := hbody A outer s H vs Q E
  rw [ec] at this
  exact this hr hG hsp
theorem pe_callGP {X : Cx} {CX : CXT} {x : Str} {ps : List Str} {k : Nat} {sp : Sp} {E : XK} {e : Expr} {es : List Expr} {t : TA} {p pos : Pos} (G : FnGP X.prog X.w X.K X.mg X.base CX k (x, none) ps sp) (hr : Room k X.A) (hG : X.A.guards = some []) (hm : X.mg x = some (.ref (ga X.K x))) (hx : Passes CX X E) (ha : PA X (e :: es) t)
    (hg : Gl X x := by rfl) (hdb : (x == ("__debug__" : Str)) = false := by decide) (he : starEach (e :: es) X.env = (false, eval e X.env) :: starEach es X.env := by rfl) (hpl : (backTo pos (starEach es X.env)).any (·.1) = false := by rfl) :
    PE X (.Call (.Name x p) (e :: es) [] pos) (tCall sp [] E t) := by
  obtain ⟨fd, G, b, kp⟩ := G
  exact pe_callG G hr hG hm kp.1 b hx ha hg hdb he hpl
/-! ### _law_is_due -/
def spDue (K : PySem.W.Frag) : Sp := fun vs H Q _ => ∃ (a dd : Addr) (x k : Str) (v : V) (d : PyData), vs = [.ref a, .str k, v] ∧ Exk H a (ga K x) dd [("value", v)] ∧ x ∈ excL ∧ kdL.lookup x = some k ∧ Dp K H v d ∧ ShowD d ∧ ∀ H', Gr H H' → Q (.bl true) H'
theorem sc_due : FnScope ["caught", "kind", "value"] ["caught", "kind", "value"] (defScope s_law_is_due) := ⟨rfl, rfl, rfl, by decide +kernel, rfl, by decide +kernel, by decide +kernel⟩
theorem Room.u70 {k : Nat} {A : Around} (r : Room k A) : A.units + 70 < cLine := by have := r.un; omega
theorem ok_due (W : Wd K mg base) : FnGP P w K mg base CX0 2 ("_law_is_due", none) ["caught", "kind", "value"] (spDue K) := by
  refine fnGP_of (W.fn 26 _ rfl) sc_due (fun _ _ _ _ _ _ us hl => match us, hl with | [_, _, _], _ => rfl) (fun vs H Q E h => ?_) (fun A outer s H vs Q E hr hG h => ?_)
  · obtain ⟨a, dd, x, k, v, d, rfl, _⟩ := h
    rfl
  · obtain ⟨a, dd, x, k, v, d, rfl, ek, hx, hk, hd, hs, q⟩ := h
    have nR : mg "repr" = none := W.free 50
    have nV : mg "ValueError" = none := W.free 52
    refine ⟨_, PSs.nox (pss_cons (ps_if (pw_or (pt_cmpR op_isN (pv 0) pe_non (nomark _)) (pw_or (pt_not (pt_val (pe_callB (call_isV W) (by rfl) W.nIsi (by decide +kernel) (pa_cons (pv 0) (pa_cons (pe_bltn (v := .ty "ValueError") (by rfl) nV (by decide +kernel) rfl) pa_nil)))))
        (pw_or1 (pt_cmpR op_ne (pe_callP (ok_kinds W) hr (W.glo 14) pass0 (pa_cons (pv 0) pa_nil)) (pv 1) (nomark _))))).pt (pss_one (ps_ret pe_bl)) pss_nil)
      (pss_one (ps_ret (pe_cmpR op_eq (pe_callB (call_reprD hG (Room.u70 hr)) (by rfl) nR (by decide +kernel) (pa_cons (pe_xk (pv 0)) pa_nil)) (pe_callB (call_reprD hG (Room.u70 hr)) (by rfl) nR (by decide +kernel) (pa_cons (pv 2) pa_nil)) (nomark _))))), ?_⟩
    refine ⟨.ref a, rfl, rfl, _, rfl, ?_⟩
    refine ⟨.ref a, rfl, a, dd, _, x, rfl, ek, hx, _, rfl, ?_⟩
    refine ⟨.ref a, rfl, a, dd, _, x, k, rfl, ek, hx, hk, fun H1 g1 => ⟨.str k, rfl, rfl, _, rfl, ?_⟩⟩
    have e1 : decide (V.str k = V.str k) = true := decide_eq_true rfl
    rw [e1]
    refine ⟨.ref a, rfl, a, _, dd, _, v, rfl, ek.gr g1, exk_xf (W.exF hx), (W.exF hx).val, rfl, v, d, rfl, g1.dp hd, hs, ?_⟩
    refine ⟨v, rfl, v, d, rfl, g1.dp hd, hs, rfl, ?_⟩
    have e2 : decide (V.str d.shown = V.str d.shown) = true := decide_eq_true rfl
    first
      | (rw [e2]; exact q _ g1)
      | (simp; exact q _ g1)
end
end K74
/-! ## Kv -/
set_option Elab.async false
set_option linter.all false
set_option maxRecDepth 100000
set_option maxHeartbeats 4000000
namespace K74
open PySem PySem.Spec PyProof.Rows L2 He Kx Gx GxR
/-- f(e, ..) in a try's body -/
theorem pe_callSP {X : Cx} {CX : CXT} {x : Str} {ps : List Str} {k : Nat} {sp : Sp} {E : L2.St → XK} {e : Expr} {es : List Expr} {t : TA} {p pos : Pos} (G : FnP X.prog X.w X.K X.mg X.base CX k (x, none) ps sp) (hr : Room k X.A) (hm : X.mg x = some (.ref (ga X.K x))) (hx : ∀ σ, PassesAt CX X σ (E σ)) (ha : PA X (e :: es) t)
    (hg : Gl X x := by rfl) (hdb : (x == ("__debug__" : Str)) = false := by decide) (he : starEach (e :: es) X.env = (false, eval e X.env) :: starEach es X.env := by rfl) (hpl : (backTo pos (starEach es X.env)).any (·.1) = false := by rfl) :
    PE X (.Call (.Name x p) (e :: es) [] pos) (tCallS sp E t) := by
  obtain ⟨fd, G, b, kp⟩ := G
  exact pe_callS G hr hg hm kp.1 b hx ha hdb he hpl
section
variable {P : Program} {w : World} {K : PySem.W.Frag} {mg : Str → Option Value} {base : Heap}
/-! ### _law_refused -/
/-- what is refused, and by which word -/
inductive Refu (kvs : List (Key × V)) (nd gd : PyData) : Str → Str → Prop
  | name : nameD nd = false → Refu kvs nd gd "keep" "name"
  | gram : nameD nd = true → gramD gd = false → Refu kvs nd gd "keep" "grammar"
  | drop : inD kvs nd = false → Refu kvs nd gd "drop" "unknown"
  | get : inD kvs nd = false → Refu kvs nd gd "grammar" "unknown"
def spRef (K : PySem.W.Frag) : Sp := fun vs H Q _ => ∃ (c dx dk dp : Addr) (what kind : Str) (v g : V) (b : Bool) (nd gd : PyData) (kvs : List (Key × V)) (ps : List V), vs = [.ref c, .str what, v, g, .bl b, .str kind] ∧ H c = some (.ins (cC K) dx (cF dk dp)) ∧ H dk = some (.dK kvs) ∧ H dp = some (.lst ps) ∧
  kvs.length < sizeLine ∧ ps.length < sizeLine ∧ Dp K H v nd ∧ Dp K H g gd ∧ shortD nd ∧ szD gd ∧ Tbs K H ∧ ShowD nd ∧ ShowD gd ∧ Refu kvs nd gd what kind ∧ ∀ H', Gr H H' → Q (.bl true) H'
theorem sc_ref : FnScope ["console", "what", "name", "grammar", "named", "kind", "caught", "e"] ["console", "what", "name", "grammar", "named", "kind"] (defScope s_law_refused) := ⟨rfl, rfl, rfl, by decide +kernel, rfl, by decide +kernel, by decide +kernel⟩
theorem ok_ref (W : Wd K mg base) : FnGP P w K mg base CX0 18 ("_law_refused", none) ["console", "what", "name", "grammar", "named", "kind"] (spRef K) := by
  refine fnGP_of (W.fn 30 _ rfl) sc_ref (fun _ _ _ _ _ _ us hl => match us, hl with | [_, _, _, _, _, _], _ => rfl) (fun vs H Q E h => ?_) (fun A outer s H vs Q E hr hG h => ?_)
  · obtain ⟨c, dx, dk, dp, what, kind, v, g, b, nd, gd, kvs, ps, rfl, _⟩ := h
    rfl
  · obtain ⟨c, dx, dk, dp, what, kind, v, g, b, nd, gd, kvs, ps, rfl, hc, hk, hp, hl1, hl2, hv, hg, hs, hz, ht, sn, sg, hR, q⟩ := h
    refine ⟨_, PSs.nox (pss_cons (ps_set (i := 6) sc_ref.nd rfl (.inl rfl) pe_non)
      (pss_cons (ps_try_keep (i := 7) (c := .ref (ga K "CountError")) rfl rfl sc_ref.nd rfl rfl ⟨by rfl, by decide, .inl (W.glo 22)⟩ rfl
        (fun W' pn xe tk _ => pss_one (ps_expr (pe_callSP (ok_call W) hr (W.glo 18) (fun σ => passAt tk σ) (pa_cons (pv 0) (pa_cons (pv 1) (pa_cons (pv 2) (pa_cons (pv 3) (pa_cons (pv 4) pa_nil))))))))
        (fun a oe cls d pn _ _ => pss_one (ps_set (i := 6) sc_ref.nd rfl (.inl rfl) (pv 7))))
      (pss_one (ps_ret (pe_callGP (ok_due W) (hr.mono (by omega)) hG (W.glo 15) pass0 (pa_cons (pv 6) (pa_cons (pv 5) (pa_cons (pe_ifExp (pt_cmpR op_eq (pv 5) pe_str (nomark _)) (pv 3) (pv 2)) pa_nil)))))))), ?_⟩
    have tail : ∀ (x : Str) (z : V) (zd : PyData), x ∈ excL → kdL.lookup x = some kind → Dp K H z zd → ShowD zd → (if decide (V.str kind = V.str "grammar") = true then g else v) = z → ∀ H', Gr H H' → ∀ a dd, H' dd = none → (upd H' dd (.xd [("value", z)])) a = none →
        tRet (tCall (spDue K) [] E0 (tCons (tVar 6) (tCons (tVar 5) (tCons (tIf (tTest (tOp rEq (tVar 5) (tC (V.str "grammar")))) (tVar 3) (tVar 2)) tNil)))) { nx := fun _ H' => Q .non H', rt := Q } [some (.ref c), some (.str what), some v, some g, some (.bl b), some (.str kind), some (.ref a), none]
          (upd (upd H' dd (.xd [("value", z)])) a (exk a (.ref (ga K x)) (some dd))) := by
      intro x z zd hx hk' hz' sz e H' g' a dd hdd ha
      have g1 : Gr H (upd (upd H' dd (.xd [("value", z)])) a (exk a (.ref (ga K x)) (some dd))) := (g'.trans (.new hdd)).trans (.new ha)
      have ek : Exk (upd (upd H' dd (.xd [("value", z)])) a (exk a (.ref (ga K x)) (some dd))) a (ga K x) dd [("value", z)] := ⟨upd_same, by rw [upd_ne (ne_of_none upd_same ha)]; exact upd_same⟩
      have fin : spDue K [.ref a, .str kind, z] (upd (upd H' dd (.xd [("value", z)])) a (exk a (.ref (ga K x)) (some dd))) Q E0 := ⟨a, dd, x, kind, z, zd, rfl, ek, hx, hk', g1.dp hz', sz, fun H2 g2 => q _ (g1.trans g2)⟩
      refine ⟨.ref a, rfl, .str kind, rfl, .str kind, rfl, rfl, _, rfl, ?_⟩
      cases ed : decide (V.str kind = V.str "grammar") with
      | true =>
        rw [ed] at e
        refine ⟨g, rfl, ?_⟩
        have e' : g = z := e
        subst e'
        exact fin
      | false =>
        rw [ed] at e
        refine ⟨v, rfl, ?_⟩
        have e' : v = z := e
        subst e'
        exact fin
    have nil : ∀ f : Str, f ≠ "_kept" → f ≠ "_past" → (cF dk dp).lookup f = none := fun f h1 h2 => by
      simp [cF, List.lookup, h1, h2, beq_eq_false_iff_ne.mpr h1, beq_eq_false_iff_ne.mpr h2]
    refine ⟨.ref c, rfl, .str what, rfl, v, rfl, g, rfl, .bl b, rfl, ?_⟩
    refine ⟨c, v, g, b, dx, cF dk dp, hc, nil _ (by decide) (by decide), nil _ (by decide) (by decide), nil _ (by decide) (by decide), ?_⟩
    have nin : inD kvs nd = false → ∀ n, nd = .str n → inD kvs nd = true → False := fun h n _ h2 => by rw [h] at h2; cases h2
    cases hR with
    | name h1 =>
      refine .inl ⟨rfl, c, dx, dk, dp, v, g, nd, gd, kvs, ps, rfl, hc, hk, hp, hl1, hl2, hv, hg, hs, hz, ht, fun _ H' g' dd hdd => ⟨(W.exF (x := "InvalidName") (by decide)).exm, fun a ha => ?_⟩, fun h2 => ?_, fun n _ h2 => ?_⟩
      · exact ⟨.ref a, rfl, fun na => tail "InvalidName" v nd (by decide) (by decide) hv sn (if_neg (by rw [decide_eq_true_iff]; intro z; injection z with z; revert z; decide)) H' g' a dd hdd na⟩
      · rw [h1] at h2; cases h2
      · rw [h1] at h2; cases h2
    | gram h1 h3 =>
      refine .inl ⟨rfl, c, dx, dk, dp, v, g, nd, gd, kvs, ps, rfl, hc, hk, hp, hl1, hl2, hv, hg, hs, hz, ht, fun h2 => ?_, fun _ _ H' g' dd hdd => ⟨(W.exF (x := "InvalidGrammar") (by decide)).exm, fun a ha => ?_⟩, fun n _ _ h2 => ?_⟩
      · rw [h1] at h2; cases h2
      · exact ⟨.ref a, rfl, fun na => tail "InvalidGrammar" g gd (by decide) (by decide) hg sg (by simp) H' g' a dd hdd na⟩
      · rw [h3] at h2; cases h2
    | drop h1 =>
      refine .inr (.inl ⟨rfl, c, dx, dk, dp, v, nd, kvs, ps, rfl, hc, hk, hp, hl1, hl2, hv, hs, ht, fun _ H' g' dd hdd => ⟨(W.exF (x := "UnknownName") (by decide)).exm, fun a ha => ?_⟩, fun n e h2 => (nin h1 n e h2).elim⟩)
      exact ⟨.ref a, rfl, fun na => tail "UnknownName" v nd (by decide) (by decide) hv sn (if_neg (by rw [decide_eq_true_iff]; intro z; injection z with z; revert z; decide)) H' g' a dd hdd na⟩
    | get h1 =>
      refine .inr (.inr ⟨rfl, c, dx, dk, dp, v, nd, kvs, rfl, hc, hk, hv, hs, ht, fun h2 n _ e _ => (nin h1 n e h2).elim, fun _ H' g' dd hdd => ⟨(W.exF (x := "UnknownName") (by decide)).exm, fun a ha => ?_⟩⟩)
      exact ⟨.ref a, rfl, fun na => tail "UnknownName" v nd (by decide) (by decide) hv sn (if_neg (by rw [decide_eq_true_iff]; intro z; injection z with z; revert z; decide)) H' g' a dd hdd na⟩
end
end K74
/-! ## Kw -/
set_option Elab.async false
set_option linter.all false
set_option maxRecDepth 100000
set_option maxHeartbeats 4000000
namespace K74
open PySem PySem.Spec PyProof.Rows L2 He Kx Gx GxR
/-! ### small data: its text is short -/
structure Sm (d : PyData) (n p : Nat) : Prop where
  lay : d.canLay0 = true
  sho : d.intsShort 13 = true
  shw : d.showable = true
  wt : d.weight ≤ n
  dp : d.depth ≤ p
theorem Sm.mono {d : PyData} {n p m q : Nat} (h : Sm d n p) (h1 : n ≤ m) (h2 : p ≤ q) : Sm d m q := ⟨h.lay, h.sho, h.shw, Nat.le_trans h.wt h1, Nat.le_trans h.dp h2⟩
theorem Sm.show {d : PyData} {n p : Nat} (h : Sm d n p) (hn : n ≤ 1000000) (hp : p < 64) : ShowD d := by
  have hl : PyData.layable0 d = true := by
    show (PyData.canLay0 d && decide (PyData.depth d ≤ 64) && decide (PyData.weight d ≤ 2 ^ 20)) = true
    rw [h.lay, decide_eq_true (show PyData.depth d ≤ 64 by have := h.dp; omega), decide_eq_true (show PyData.weight d ≤ 2 ^ 20 by have := h.wt; omega)]
    rfl
  have z := shown_le13 hl h.sho
  exact ⟨h.shw, PyData.hasDict_of_layable hl, by have := h.dp; omega, by rw [sizeLine_eq]; omega⟩
theorem int_all : ((List.range 202).all fun j => decide ((PyData.shown (.int ((j : Int) - 101))).length ≤ 13) && (decide (((j : Int) - 101).natAbs.log2 < 1920) && decide (PyData.weight (.int ((j : Int) - 101)) ≤ 7))) = true := by decide +kernel
theorem sm_int {i : Int} (h1 : -101 ≤ i) (h2 : i ≤ 100) : Sm (.int i) 7 0 := by
  have z := List.all_eq_true.mp int_all (i + 101).toNat (List.mem_range.mpr (by omega))
  have e : (((i + 101).toNat : Nat) : Int) - 101 = i := by omega
  rw [e] at z
  simp only [Bool.and_eq_true, decide_eq_true_eq] at z
  exact ⟨rfl, by unfold PyData.intsShort; exact decide_eq_true z.1, by unfold PyData.showable; exact decide_eq_true z.2.1, z.2.2, Nat.le_refl _⟩
theorem sm_none : Sm .none 7 0 := ⟨rfl, rfl, rfl, by decide +kernel, Nat.le_refl _⟩
theorem sm_bool (b : Bool) : Sm (.bool b) 7 0 := ⟨rfl, rfl, rfl, by show 0 ≤ 7; decide, Nat.le_refl _⟩
theorem sm_all {n p : Nat} : ∀ xs : List PyData, (∀ x ∈ xs, Sm x n p) → PyData.canLayAll0 xs = true ∧ PyData.intsShortAll 13 xs = true ∧ PyData.showableAll xs = true ∧ PyData.weightAll xs ≤ xs.length * (n + 1) ∧ PyData.depthAll xs ≤ p
  | [], _ => ⟨rfl, rfl, rfl, Nat.zero_le _, Nat.zero_le _⟩
  | x :: xs, h => by
    obtain ⟨a1, a2, a3, a4, a5⟩ := sm_all xs fun y hy => h y (List.mem_cons_of_mem _ hy)
    have hx := h x List.mem_cons_self
    refine ⟨?_, ?_, ?_, ?_, ?_⟩
    · rw [PyData.canLayAll0, hx.lay, a1]; rfl
    · rw [PyData.intsShortAll, hx.sho, a2]; rfl
    · rw [PyData.showableAll, hx.shw, a3]; rfl
    · rw [PyData.weightAll, List.length_cons, Nat.succ_mul]
      have := hx.wt
      omega
    · rw [PyData.depthAll]
      have := hx.dp
      omega
theorem sm_tup {n p : Nat} {xs : List PyData} (h : ∀ x ∈ xs, Sm x n p) : Sm (.tuple xs) (xs.length * (n + 1)) (p + 1) := by
  obtain ⟨a1, a2, a3, a4, a5⟩ := sm_all xs h
  exact ⟨by rw [PyData.canLay0]; exact a1, by rw [PyData.intsShort]; exact a2, by rw [PyData.showable]; exact a3, by rw [PyData.weight]; exact a4, by rw [PyData.depth]; omega⟩
theorem sm_lst {n p : Nat} {xs : List PyData} (h : ∀ x ∈ xs, Sm x n p) : Sm (.list xs) (xs.length * (n + 1)) (p + 1) := by
  obtain ⟨a1, a2, a3, a4, a5⟩ := sm_all xs h
  exact ⟨by rw [PyData.canLay0]; exact a1, by rw [PyData.intsShort]; exact a2, by rw [PyData.showable]; exact a3, by rw [PyData.weight]; exact a4, by rw [PyData.depth]; omega⟩
theorem sm_ints {xs : List Int} (h : ∀ z ∈ xs, -101 ≤ z ∧ z ≤ 100) (hl : xs.length ≤ 10) : Sm (.tuple (xs.map .int)) 80 1 := by
  refine (sm_tup (n := 7) (p := 0) fun d hd => ?_).mono ?_ (Nat.le_refl _)
  · obtain ⟨z, hz, rfl⟩ := List.mem_map.mp hd
    exact sm_int (h z hz).1 (h z hz).2
  · rw [List.length_map]; omega
/-! ### rules and grammars -/
abbrev Rul := Int × List Int × List Int
open Ns (rulD rulK)
/-- a rule of k letters, n names, its numbers small -/
structure RulOk (k n : Nat) (r : Rul) : Prop where
  lo : 0 ≤ r.1
  hi : r.1 < n
  l1 : r.2.1.length = k
  b1 : ∀ z ∈ r.2.1, 0 ≤ z ∧ z ≤ 99
  l2 : r.2.2.length = n
  b2 : ∀ z ∈ r.2.2, 0 ≤ z ∧ z ≤ 99
structure GrmOk (k n : Nat) (st : List Int) (rs : List Rul) : Prop where
  k1 : 1 ≤ k
  k3 : k ≤ 3
  n1 : 1 ≤ n
  n4 : n ≤ 4
  sl : st.length = n
  sb : ∀ z ∈ st, 0 ≤ z ∧ z ≤ 99
  rl : rs.length ≤ 4
  ok : ∀ r ∈ rs, RulOk k n r
  asc : rs.Pairwise fun r q => PySem.W.dataLt (rulD r) (rulD q) = true
def grmD (k n : Nat) (st : List Int) (rs : List Rul) : PyData := .tuple [.int k, .int n, .tuple (st.map .int), .tuple (rs.map rulD)]
theorem nat_ints {xs : List Int} (h : ∀ z ∈ xs, 0 ≤ z ∧ z ≤ 99) : (xs.map PyData.int).all natD = true := by
  rw [List.all_eq_true]
  intro d hd
  obtain ⟨z, hz, rfl⟩ := List.mem_map.mp hd
  exact decide_eq_true (h z hz).1
theorem nats_ints {xs : List Int} {m : Int} (h : ∀ z ∈ xs, 0 ≤ z ∧ z ≤ 99) (hl : (xs.length : Int) = m) : natsD (.tuple (xs.map .int)) m = true := by
  show (decide (((xs.map PyData.int).length : Int) = m) && (xs.map PyData.int).all natD) = true
  rw [nat_ints h, List.length_map, decide_eq_true hl]
  rfl
theorem RulOk.rule {k n : Nat} {r : Rul} (h : RulOk k n r) : ruleD k n (rulD r) = true := by
  show (betD (.int r.1) 0 ((n : Int) - 1) && (natsD (.tuple (r.2.1.map .int)) k && natsD (.tuple (r.2.2.map .int)) n)) = true
  rw [nats_ints h.b1 (by rw [h.l1]), nats_ints h.b2 (by rw [h.l2])]
  have e : betD (.int r.1) 0 ((n : Int) - 1) = true := by
    show (decide (0 ≤ r.1) && decide (r.1 ≤ (n : Int) - 1)) = true
    rw [decide_eq_true h.lo, decide_eq_true (show r.1 ≤ (n : Int) - 1 by have := h.hi; omega)]
    rfl
  rw [e]
  rfl
theorem RulOk.sm {k n : Nat} {r : Rul} (h : RulOk k n r) (hk : k ≤ 3) (hn : n ≤ 4) : Sm (rulD r) 300 2 := by
  refine (sm_tup (n := 80) (p := 1) fun d hd => ?_).mono (by simp) (Nat.le_refl _)
  rcases List.mem_cons.mp hd with e | hd
  · rw [e]
    have h1 := h.lo
    have h2 := h.hi
    exact (sm_int (by omega) (by omega)).mono (by omega) (by omega)
  rcases List.mem_cons.mp hd with e | hd
  · rw [e]
    exact sm_ints (fun z hz => by have := h.b1 z hz; omega) (by rw [h.l1]; omega)
  · rw [List.mem_singleton.mp hd]
    exact sm_ints (fun z hz => by have := h.b2 z hz; omega) (by rw [h.l2]; omega)
theorem asc_pw : ∀ rs : List PyData, rs.Pairwise (fun r q => PySem.W.dataLt r q = true) → ascD rs = true := by
  intro rs h
  unfold ascD
  rw [List.all_eq_true]
  intro i hi
  have hi := List.mem_range.mp hi
  have h1 : i < rs.length := by omega
  have h2 : i + 1 < rs.length := by omega
  rw [List.getD_eq_getElem?_getD, List.getD_eq_getElem?_getD, List.getElem?_eq_getElem h1, List.getElem?_eq_getElem h2]
  exact List.pairwise_iff_getElem.mp h i (i + 1) h1 h2 (Nat.lt_succ_self i)
theorem GrmOk.gram {k n : Nat} {st : List Int} {rs : List Rul} (h : GrmOk k n st rs) : gramD (grmD k n st rs) = true := by
  have e0 : betD (.int (k : Int)) 1 3 = true := by
    show (decide ((1 : Int) ≤ k) && decide ((k : Int) ≤ 3)) = true
    have h1 := h.k1
    have h3 := h.k3
    rw [decide_eq_true (show (1 : Int) ≤ k by omega), decide_eq_true (show (k : Int) ≤ 3 by omega)]
    rfl
  have e1 : decide ((1 : Int) ≤ (n : Int)) = true := decide_eq_true (by have := h.n1; omega)
  have e2 := nats_ints (m := n) h.sb (by rw [h.sl])
  have e3 : (rs.map rulD).all (ruleD k n) = true := by
    rw [List.all_eq_true]
    intro d hd
    obtain ⟨r, hr, rfl⟩ := List.mem_map.mp hd
    exact (h.ok r hr).rule
  have e4 : ascD (rs.map rulD) = true := asc_pw _ (List.pairwise_map.mpr h.asc)
  show (betD (.int (k : Int)) 1 3 && (decide ((1 : Int) ≤ (n : Int)) && (natsD (.tuple (st.map .int)) n && ((rs.map rulD).all (ruleD k n) && ascD (rs.map rulD))))) = true
  rw [e0, e1, e2, e3, e4]
  rfl
theorem GrmOk.sm {k n : Nat} {st : List Int} {rs : List Rul} (h : GrmOk k n st rs) : Sm (grmD k n st rs) 6000 4 := by
  have h1 := h.k3
  have h2 := h.n4
  have sr : Sm (.tuple (rs.map rulD)) 1204 3 := by
    refine (sm_tup (n := 300) (p := 2) fun d hd => ?_).mono ?_ (Nat.le_refl _)
    · obtain ⟨r, hr, rfl⟩ := List.mem_map.mp hd
      exact (h.ok r hr).sm h1 h2
    · rw [List.length_map]
      have := h.rl
      omega
  refine (sm_tup (n := 1204) (p := 3) fun d hd => ?_).mono (by simp) (Nat.le_refl _)
  rcases List.mem_cons.mp hd with e | hd
  · rw [e]; exact (sm_int (by omega) (by omega)).mono (by omega) (by omega)
  rcases List.mem_cons.mp hd with e | hd
  · rw [e]; exact (sm_int (by omega) (by omega)).mono (by omega) (by omega)
  rcases List.mem_cons.mp hd with e | hd
  · rw [e]; exact (sm_ints (fun z hz => by have := h.sb z hz; omega) (by rw [h.sl]; omega)).mono (by omega) (by omega)
  · rw [List.mem_singleton.mp hd]; exact sr
theorem GrmOk.sz {k n : Nat} {st : List Int} {rs : List Rul} (h : GrmOk k n st rs) : szD (grmD k n st rs) := by
  intro a b c ds e
  injection e with e
  simp only [List.cons.injEq] at e
  obtain ⟨_, _, _, e, _⟩ := e
  injection e with e
  rw [← e, List.length_map]
  have := h.rl
  omega
end K74
/-! ## Ky -/
set_option Elab.async false
set_option linter.all false
set_option maxRecDepth 100000
set_option maxHeartbeats 4000000
namespace K74
open PySem PySem.Spec PyProof.Rows L2 He Kx Gx GxR
open Ns (rulD rulK IsK SetNO)
theorem sqt_upd {K : PySem.W.Frag} {H : Hp} {a l : Addr} {xs ys : List V} {o : HO} (h : SqT K H a xs) (hl : H l = some (.lst ys)) : SqT K (upd H l o) a xs := by
  rcases h with (h | ⟨u, h⟩) | h
  · have ne : a ≠ l := fun z => by rw [z, hl] at h; cases h
    exact .inl (.inl (by rw [upd_ne ne]; exact h))
  · have ne : a ≠ l := fun z => by rw [z, hl] at h; cases h
    exact .inl (.inr ⟨u, by rw [upd_ne ne]; exact h⟩)
  · exact .inr h
theorem sqt_grx {K : PySem.W.Frag} {S : List Addr} {H H' : Hp} {a : Addr} {xs : List V} (g : GrX S H H') (hs : NoSq S H) (h : SqT K H a xs) : SqT K H' a xs := h.imp (fun z => g.rd (fun q => (hs _ q).2 _ z) z fun ps q => by cases q) id
theorem dpAll_out {K : PySem.W.Frag} {H : Hp} : ∀ {ds : List Int} {xs : List V}, DpAll K H xs (ds.map PyData.int) → xs = ds.map V.int
  | [], _, h => by
    have h' : DpAll K H _ [] := h
    cases h'
    rfl
  | d :: ds, _, h => by
    have h' : DpAll K H _ (.int d :: ds.map PyData.int) := h
    cases h' with
    | cons h1 h2 =>
      cases h1
      rw [dpAll_out h2]
      rfl
theorem NatsT.sq {K : PySem.W.Frag} {H : Hp} {p : Addr} {k : Nat} {ds : List Int} (h : NatsT K H (.ref p) k ds) : SqT K H p (ds.map V.int) := by
  obtain ⟨h, _, _⟩ := h
  obtain ⟨q, xs, e, hs, ha⟩ := lenT h
  cases e
  rwa [dpAll_out ha] at hs
/-- the rule r stands at p -/
def RulAt (K : PySem.W.Frag) (H : Hp) (p : Addr) (r : Rul) : Prop := ∃ b c, SqT K H p [.int r.1, .ref b, .ref c] ∧ SqT K H b (r.2.1.map V.int) ∧ SqT K H c (r.2.2.map V.int)
theorem RulAt.upd {K : PySem.W.Frag} {H : Hp} {p l : Addr} {r : Rul} {ys : List V} {o : HO} (h : RulAt K H p r) (hl : H l = some (.lst ys)) : RulAt K (upd H l o) p r := by
  obtain ⟨b, c, h1, h2, h3⟩ := h
  exact ⟨b, c, sqt_upd h1 hl, sqt_upd h2 hl, sqt_upd h3 hl⟩
theorem RulAt.grx {K : PySem.W.Frag} {S : List Addr} {H H' : Hp} {p : Addr} {r : Rul} (h : RulAt K H p r) (g : GrX S H H') (hs : NoSq S H) : RulAt K H' p r := by
  obtain ⟨b, c, h1, h2, h3⟩ := h
  exact ⟨b, c, sqt_grx g hs h1, sqt_grx g hs h2, sqt_grx g hs h3⟩
theorem RulAt.gr {K : PySem.W.Frag} {H H' : Hp} {p : Addr} {r : Rul} (h : RulAt K H p r) (g : Gr H H') : RulAt K H' p r := by
  obtain ⟨b, c, h1, h2, h3⟩ := h
  exact ⟨b, c, g.sqt h1, g.sqt h2, g.sqt h3⟩
theorem RulAt.dp {K : PySem.W.Frag} {H : Hp} {p : Addr} {r : Rul} (h : RulAt K H p r) : Dp K H (.ref p) (rulD r) := by
  obtain ⟨b, c, h1, h2, h3⟩ := h
  exact .tup h1 (.cons (.int _) (.cons (.tup h2 (dpAll_ints _)) (.cons (.tup h3 (dpAll_ints _)) .nil)))
theorem RulAt.isK {K : PySem.W.Frag} {H : Hp} {p : Addr} {r : Rul} (h : RulAt K H p r) : IsK K H (p, rulK r) := ⟨by rw [Ns.rulK_data]; exact h.dp, Ns.rulK_num r, by rw [Ns.rulK_depth]; decide⟩
/-- the rules behind keys -/
theorem rules_of {k n : Nat} : ∀ L : List (Addr × NestedKey), (∀ q ∈ L, ∃ r, RulOk k n r ∧ q.2 = rulK r) → ∃ rs : List Rul, L.map (·.2) = rs.map rulK ∧ ∀ r ∈ rs, RulOk k n r
  | [], _ => ⟨[], rfl, fun r hr => by cases hr⟩
  | q :: L, h => by
    obtain ⟨r, hr, e⟩ := h q List.mem_cons_self
    obtain ⟨rs, e1, h1⟩ := rules_of L fun z hz => h z (List.mem_cons_of_mem _ hz)
    refine ⟨r :: rs, by rw [List.map_cons, List.map_cons, e, e1], fun z hz => ?_⟩
    rcases List.mem_cons.mp hz with e2 | hz
    · rw [e2]; exact hr
    · exact h1 z hz
theorem rules_asc : ∀ (L : List (Addr × NestedKey)) (rs : List Rul), L.map (·.2) = rs.map rulK → (L.map (·.2)).Nodup → L.Pairwise (fun x y => PySem.W.dataLt y.2.data x.2.data = false) → rs.Pairwise fun r q => PySem.W.dataLt (rulD r) (rulD q) = true := by
  intro L rs e nd pw
  have p1 : (L.map (·.2)).Pairwise fun x y => PySem.W.dataLt y.data x.data = false := List.pairwise_map.mpr pw
  rw [e] at p1 nd
  have p2 := List.pairwise_map.mp p1
  have p3 := List.pairwise_map.mp nd
  refine List.Pairwise.imp₂ (fun r q h1 h2 => ?_) p2 p3
  rw [Ns.rulK_data, Ns.rulK_data] at h1
  exact Ns.lt_of_le h1 fun z => h2 (by rw [z])
theorem dpAll_rules {K : PySem.W.Frag} {H : Hp} : ∀ (L : List (Addr × NestedKey)) (rs : List Rul), L.map (·.2) = rs.map rulK → (∀ q ∈ L, Dp K H (.ref q.1) q.2.data) → DpAll K H (L.map fun q => V.ref q.1) (rs.map rulD)
  | [], [], _, _ => .nil
  | [], _ :: _, e, _ => by simp at e
  | _ :: _, [], e, _ => by simp at e
  | q :: L, r :: rs, e, h => by
    rw [List.map_cons, List.map_cons, List.cons.injEq] at e
    refine .cons ?_ (dpAll_rules L rs e.2 fun z hz => h z (List.mem_cons_of_mem _ hz))
    have z := h q List.mem_cons_self
    rwa [e.1, Ns.rulK_data] at z
section
variable {P : Program} {w : World} {K : PySem.W.Frag} {mg : Str → Option Value} {base : Heap}
theorem Wd.nSet (W : Wd K mg base) : mg "set" = none := W.free 48
theorem Wd.nSorted (W : Wd K mg base) : mg "sorted" = none := W.free 47
theorem pick2 {b : Bool} {i j : Int} {σ : L2.St} {H : Hp} {Q : VK} (h : ∀ m : Int, m = i ∨ m = j → Q (.int m) H) : if b = true then tC (.int i) σ H Q else tC (.int j) σ H Q := by
  cases b with
  | true => exact h i (.inl rfl)
  | false => exact h j (.inr rfl)
/-! ### _law_grammar -/
def spGrm (K : PySem.W.Frag) : Sp := fun vs H Q _ => ∃ (s cl : Addr) (ns : List Int), vs = [.ref s] ∧ Src H s cl ns ∧ ∀ H' g k n st rs, GrX [s] H H' → Src H' s cl ns → GrmOk k n st rs → Dp K H' (.ref g) (grmD k n st rs) → Q (.ref g) H'
theorem sc_grm : FnScope ["source", "k", "n", "most", "rules", "turn", "letters"] ["source"] (defScope s_law_grammar) := ⟨rfl, rfl, rfl, by decide +kernel, rfl, by decide +kernel, by decide +kernel⟩
theorem Room.u100 {k : Nat} {A : Around} (r : Room k A) : A.units + 100 < cLine := by have := r.un; omega
theorem ok_grm (W : Wd K mg base) : FnP P w K mg base CX0 4 ("_law_grammar", none) ["source"] (spGrm K) := by
  refine fnP_of (W.fn 23 _ rfl) sc_grm (fun _ _ _ _ _ _ us hl => match us, hl with | [_], _ => rfl) (fun vs H Q E h => ?_) (fun A outer s H vs Q E hr h => ?_)
  · obtain ⟨c, cl, ns, rfl, _⟩ := h
    rfl
  · obtain ⟨c, cl, ns, rfl, hS, q⟩ := h
    refine ⟨_, PSs.nox (pss_cons (ps_par (i := 1) (j := 2) rfl sc_grm.nd rfl rfl (by decide) rfl rfl (pa_cons (pe_op op_add pe_int (pe_callP (ok_draw W) (hr.mono (by omega)) (W.glo 11) pass0 (pa_cons (pv 0) (pa_cons pe_int pa_nil)))) (pa_cons (pe_op op_add pe_int (pe_callP (ok_draw W) (hr.mono (by omega)) (W.glo 11) pass0 (pa_cons (pv 0) (pa_cons pe_int pa_nil)))) pa_nil)) (by rfl)) (pss_cons (ps_set (i := 3) sc_grm.nd rfl (.inl rfl) (pe_ifExp (pt_cmpR op_lt (pv 2) pe_int (nomark _)) pe_int pe_int)) (pss_cons (ps_set (i := 4) sc_grm.nd rfl (.inl rfl) (pe_lst pa_nil)) (pss_cons (ps_for PassesOwn.never rfl (pi_range1 (by rfl) W.nRange (pa_cons (pe_callP (ok_draw W) (hr.mono (by omega)) (W.glo 11) pass0 (pa_cons (pv 0) (pa_cons pe_int pa_nil))) pa_nil)) (pg_name (i := 5) sc_grm.nd rfl (.inl rfl)) (pss_cons (ps_set (i := 6) sc_grm.nd rfl (.inl rfl) (pe_callP (ok_spread W) hr (W.glo 13) pass0 (pa_cons (pv 0) (pa_cons (pv 1) (pa_cons (pe_callP (ok_draw W) (hr.mono (by omega)) (W.glo 11) pass0 (pa_cons (pv 0) (pa_cons pe_int pa_nil))) pa_nil))))) (pss_one (ps_expr (pe_bm PySem.F.plainAttrs_list PySem.F.slot_list_append PySem.F.type_list_append mt_append (pv 4) (pa_cons (pe_tup (pa_cons (pe_callP (ok_draw W) (hr.mono (by omega)) (W.glo 11) pass0 (pa_cons (pv 0) (pa_cons (pv 2) pa_nil))) (pa_cons (pv 6) (pa_cons (pe_callP (ok_spread W) hr (W.glo 13) pass0 (pa_cons (pv 0) (pa_cons (pv 2) (pa_cons (pe_callP (ok_draw W) (hr.mono (by omega)) (W.glo 11) pass0 (pa_cons (pv 0) (pa_cons (pe_op op_add (pv 3) pe_int) pa_nil))) pa_nil)))) pa_nil)))) pa_nil)))))) (pss_one (ps_ret (pe_tup (pa_cons (pv 1) (pa_cons (pv 2) (pa_cons (pe_callP (ok_spread W) hr (W.glo 13) pass0 (pa_cons (pv 0) (pa_cons (pv 2) (pa_cons (pe_callP (ok_draw W) (hr.mono (by omega)) (W.glo 11) pass0 (pa_cons (pv 0) (pa_cons pe_int pa_nil))) pa_nil)))) (pa_cons (pe_callTy call_tuple_of (by rfl) W.nTuple (by decide +kernel) (pa_cons (pe_callB (Ns.cr_sortN rfl (Room.u100 hr)) (by rfl) W.nSorted (by decide +kernel) (pa_cons (pe_callTy (Ns.cr_setN rfl (Room.u64 hr)) (by rfl) W.nSet (by decide +kernel) (pa_cons (pv 4) pa_nil)) pa_nil)) pa_nil)) pa_nil))))))))))), ?_⟩
    refine ⟨.ref c, rfl, c, cl, ns, 3, rfl, by omega, by omega, hS, fun H1 r1 g1 hS1 a1 b1 => ⟨1, r1, rfl, rfl, ?_⟩⟩
    refine ⟨.ref c, rfl, c, cl, ns, 4, rfl, by omega, by omega, hS1, fun H2 r2 g2 hS2 a2 b2 => ⟨1, r2, rfl, rfl, ?_⟩⟩
    obtain ⟨k, ek⟩ : ∃ k : Nat, 1 + r1 = k := ⟨(1 + r1).toNat, by omega⟩
    obtain ⟨n, en⟩ : ∃ n : Nat, 1 + r2 = n := ⟨(1 + r2).toNat, by omega⟩
    have hk1 : 1 ≤ k ∧ k ≤ 3 := by omega
    have hn1 : 1 ≤ n ∧ n ≤ 4 := by omega
    refine ⟨.int k, .int n, (show ([V.int (1 + r1), V.int (1 + r2)] : List V) = [V.int k, V.int n] by rw [ek, en]), ?_⟩
    refine ⟨.int n, rfl, n, 3, rfl, rfl, _, rfl, pick2 fun mo hmo => ?_⟩
    have gb := g1.trans g2
    clear g1 g2
    refine ⟨by simp [sizeLine_eq], fun rl hrl => ?_⟩
    obtain ⟨s1, s2⟩ := hS2.some hrl
    have n1 : rl ∉ [c] := by simp; exact Ne.symm s1
    refine ⟨.ref c, rfl, c, cl, ns, 5, rfl, by omega, by omega, src_new hS2 s1 s2, fun H3 r3 g3 hS3 a3 b3 => ⟨r3, rfl, by omega, by omega, ?_⟩⟩
    have l3 : H3 rl = some (.lst []) := g3.lst n1 upd_same
    have g4 := (grx_new (grx_refl [c] H2) (o := .lst []) hrl).trans g3
    clear g3
    refine for_range (lo := 0) (n := r3.toNat) (fun i σ H1 => ∃ (x5 x6 : Option V) (rows : List (Addr × Rul)), σ = [some (.ref c), some (.int k), some (.int n), some (.int mo), some (.ref rl), x5, x6] ∧ GrX [c] H2 H1 ∧ Src H1 c cl ns ∧ H1 rl = some (.lst (rows.map fun p => V.ref p.1)) ∧ rows.length = i ∧
        ∀ p ∈ rows, RulAt K H1 p.1 p.2 ∧ RulOk k n p.2) ⟨none, none, [], rfl, g4, hS3, l3, rfl, fun p hp => by cases hp⟩ (fun i σ H1 hi hP => ?_) (fun σ H1 hP => ?_)
    · obtain ⟨x5, x6, rows, rfl, g1, hS1, hl, hlen, hrows⟩ := hP
      refine ⟨.ref c, rfl, .int k, rfl, .ref c, rfl, c, cl, ns, 3, rfl, by omega, by omega, hS1, fun H4 r4 g4 hS4 a4 b4 => ?_⟩
      obtain ⟨t4, rfl⟩ : ∃ t : Nat, r4 = t := ⟨r4.toNat, by omega⟩
      refine ⟨c, cl, ns, k, t4, rfl, by omega, by omega, by omega, hS4, fun H5 pl ds g5 hS5 hN => ?_⟩
      have l5 : H5 rl = some (.lst (rows.map fun p => V.ref p.1)) := g5.lst n1 (g4.lst n1 hl)
      refine ⟨.ref rl, rfl, .inl ⟨rfl, _, SqL.of l5⟩, .ref c, rfl, .int n, rfl, c, cl, ns, n, rfl, by omega, by omega, hS5, fun H6 r6 g6 hS6 a6 b6 => ?_⟩
      refine ⟨.ref pl, rfl, .ref c, rfl, .int n, rfl, .ref c, rfl, .int mo, rfl, mo, 1, rfl, rfl, c, cl, ns, mo + 1, rfl, by omega, by omega, hS6, fun H7 r7 g7 hS7 a7 b7 => ?_⟩
      obtain ⟨t7, rfl⟩ : ∃ t : Nat, r7 = t := ⟨r7.toNat, by omega⟩
      refine ⟨c, cl, ns, n, t7, rfl, by omega, by omega, by omega, hS7, fun H8 pc es g8 hS8 hN8 => ⟨by simp [sizeLine_eq], fun pt hpt => ?_⟩⟩
      have g68 : GrX [c] H5 H8 := (g6.trans g7).trans g8
      have g18 : GrX [c] H1 H8 := (g4.trans g5).trans g68
      have l8 : H8 rl = some (.lst (rows.map fun p => V.ref p.1)) := g68.lst n1 l5
      have n2 : rl ≠ pt := ne_of_none l8 hpt
      have l9 : (upd H8 pt (.tup [.int r6, .ref pl, .ref pc])) rl = some (.lst (rows.map fun p => V.ref p.1)) := by rw [upd_ne n2]; exact l8
      have gn : Gr H8 (upd H8 pt (.tup [.int r6, .ref pl, .ref pc])) := .new hpt
      obtain ⟨s3, s4⟩ := hS8.some hpt
      refine ⟨rl, _, .ref pt, rfl, rfl, l9, by rw [List.length_map, sizeLine_eq]; omega, ?_⟩
      have hu := GrX.upd (S := [rl]) (o := .lst (rows.map (fun p => V.ref p.1) ++ [.ref pt])) (by simp) l9 (fun ps q => by cases q)
      refine ⟨_, _, rows ++ [(pt, (r6, ds, es))], rfl, grx_new (grx_new' (g1.trans g18) hpt) hrl, src_new (src_new hS8 s3 s4) s1 s2, by rw [upd_same, List.map_append]; rfl, by rw [List.length_append, hlen]; rfl, fun p hp => ?_⟩
      rcases List.mem_append.mp hp with hp | hp
      · obtain ⟨h1, h2⟩ := hrows p hp
        exact ⟨((h1.grx g18 hS1.noSq).gr gn).upd l9, h2⟩
      · rw [List.mem_singleton.mp hp]
        refine ⟨⟨pl, pc, sqt_upd (SqT.of upd_same) l9, sqt_upd (gn.sqt (sqt_grx g68 hS5.noSq hN.sq)) l9, sqt_upd (gn.sqt hN8.sq) l9⟩, a6, b6, hN.2.1, hN.2.2, hN8.2.1, hN8.2.2⟩
    · obtain ⟨x5, x6, rows, rfl, g1, hS1, hl, hlen, hrows⟩ := hP
      refine ⟨.int k, rfl, .int n, rfl, .ref c, rfl, .int n, rfl, .ref c, rfl, c, cl, ns, 3, rfl, by omega, by omega, hS1, fun H4 r4 g4 hS4 a4 b4 => ?_⟩
      obtain ⟨t4, rfl⟩ : ∃ t : Nat, r4 = t := ⟨r4.toNat, by omega⟩
      refine ⟨c, cl, ns, n, t4, rfl, by omega, by omega, by omega, hS4, fun H5 ps st g5 hS5 hN => ?_⟩
      have g15 := g4.trans g5
      have l5 : H5 rl = some (.lst ((rows.map fun p => (p.1, rulK p.2)).map fun p => V.ref p.1)) := by
        rw [List.map_map]
        exact g15.lst n1 hl
      have key : ∀ p ∈ rows.map (fun p => (p.1, rulK p.2)), IsK K H5 p ∧ ∃ r, RulOk k n r ∧ p.2 = rulK r := fun p hp => by
        obtain ⟨z, hz, rfl⟩ := List.mem_map.mp hp
        obtain ⟨h1, h2⟩ := hrows z hz
        exact ⟨(h1.grx g15 hS1.noSq).isK, z.2, h2, rfl⟩
      refine ⟨.ref rl, rfl, rl, rows.map (fun p => (p.1, rulK p.2)), rfl, SqL.of l5, fun p hp => (key p hp).1, by rw [List.length_map]; omega, fun a L ha sub => ?_⟩
      have ga : Gr H5 (upd H5 a (SetNO w a L)) := .new ha
      have isK : ∀ p ∈ L, IsK K (upd H5 a (SetNO w a L)) p := fun p hp => ⟨ga.dp (key p (sub p hp)).1.1, (key p (sub p hp)).1.2⟩
      have rul : ∀ p ∈ L, ∃ r, RulOk k n r ∧ p.2 = rulK r := fun p hp => (key p (sub p hp)).2
      refine ⟨a, L, rfl, upd_same, isK, fun p hp z hz => ?_, fun p hp => ?_, fun p hp => ?_, fun L' p m1 m2 m3 m4 hp => ?_⟩
      · obtain ⟨r, hr, e⟩ := rul p hp
        obtain ⟨r', hr', e'⟩ := rul z hz
        rw [e, e', Ns.rulK_data, Ns.rulK_data]
        exact ruleD_alike hr.rule hr'.rule
      · obtain ⟨r, hr, e⟩ := rul p hp
        exact ⟨_, _, by rw [e, Ns.rulK_data]; rfl⟩
      · obtain ⟨r, hr, e⟩ := rul p hp
        rw [e, Ns.rulK_data]
        exact (ruleD_depth hr.rule).2
      · obtain ⟨rs, e1, hrs⟩ := rules_of L' fun z hz => rul z (m1 z hz)
        have asc := rules_asc L' rs e1 m2 m4
        have lrs : rs.length ≤ 4 := by
          have z := congrArg List.length e1
          rw [List.length_map, List.length_map] at z
          omega
        have gp : Gr (upd H5 a (SetNO w a L)) (upd (upd H5 a (SetNO w a L)) p (.lst (L'.map fun q => V.ref q.1))) := .new hp
        refine ⟨p, _, rfl, .inl ⟨SqL.of upd_same, fun tp htp => ⟨by simp [sizeLine_eq], fun g hg => ?_⟩⟩⟩
        have gt : Gr (upd (upd H5 a (SetNO w a L)) p (.lst (L'.map fun q => V.ref q.1))) (upd (upd (upd H5 a (SetNO w a L)) p (.lst (L'.map fun q => V.ref q.1))) tp (.tup (L'.map fun q => V.ref q.1))) := .new htp
        have tq : SqT K (upd (upd (upd H5 a (SetNO w a L)) p (.lst (L'.map fun q => V.ref q.1))) tp (.tup (L'.map fun q => V.ref q.1))) tp (L'.map fun q => V.ref q.1) := SqT.of upd_same
        have g5t := (ga.trans gp).trans gt
        have g2t := gp.trans gt
        obtain ⟨c1, c2⟩ := (((hS5.gr ga).gr gp).gr gt).some hg
        have hSg := ((hS5.gr ga).gr gp).gr gt
        have gg := Gr.new (o := .tup [V.int k, V.int n, V.ref ps, V.ref tp]) hg
        refine q _ g k n st rs ((gb.trans g1).trans (g15.trans (Gr.grx (g5t.trans gg) _))) (hSg.gr gg) ⟨hk1.1, hk1.2, hn1.1, hn1.2, hN.2.1, hN.2.2, lrs, hrs, asc⟩ ?_
        refine .tup (SqT.of upd_same) (.cons (.int _) (.cons (.int _) (.cons (gg.dp (g5t.dp hN.1)) (.cons (.tup (gg.sqt tq) (dpAll_rules L' rs e1 fun z hz => gg.dp (g2t.dp (isK z (m1 z hz)).1))) .nil))))
end
end K74
/-! ## Ma -/
set_option Elab.async false
set_option linter.all false
set_option maxRecDepth 100000
set_option maxHeartbeats 4000000
namespace K74
open PySem PySem.Spec PyProof.Rows L2 He Kx Gx GxR
/-! ### tuple * 1 is the tuple itself -/
theorem tuple_mul_same (l : Addr) (items : Array Value) (n : Nat) (dd : Option Addr) (sl : Array (Option Value)) (u : Tok) :
    Meets (Builtin.«tuple.__mul__» ⟨[.ref l, .int 1 u], []⟩) (fun _ R s => s.heap.get? l = some { cls := .type "tuple", dict := dd, data := .seq items n, slots := sl } ∧ R (.ok (.ret (Value.ref l))) s) :=
  .of_wp fun prog w A R s h => by
    obtain ⟨hp, g, d, tk, os⟩ := s
    obtain ⟨hl, h⟩ := h
    have f1 := AutoSeq1.idx_int
    have c1 : (items.isEmpty || (1 : Int) == 1) = true := by simp
    wp_walk using wpAny_loadPart' hl
    repeat (first
      | (refine wpAny_ite_false (decide_eq_false (by decide)) ?_; wp_walk using wpAny_loadPart' hl)
      | (refine wpAny_ite_true (decide_eq_true c1) ?_; wp_walk using wpAny_loadPart' hl))
    all_goals exact ⟨_, rfl, h⟩
/-- tuple * k, k from 1 on, as data -/
def rMulD (K : PySem.W.Frag) : R2 := fun x y H Q => ∃ (ds : List PyData) (k : Nat), Dp K H x (.tuple ds) ∧ y = .int k ∧ ds ≠ [] ∧ 1 ≤ k ∧ k ≤ 1000 ∧ ds.length ≤ 1000 ∧ ∀ H' v, Gr H H' → Dp K H' v (.tuple (List.replicate k ds).flatten) → Q v H'
theorem dpAll_app {K : PySem.W.Frag} {H : Hp} : ∀ {xs ys : List V} {ds es : List PyData}, DpAll K H xs ds → DpAll K H ys es → DpAll K H (xs ++ ys) (ds ++ es)
  | _, _, _, _, .nil, h => h
  | _, _, _, _, .cons h a, b => .cons h (dpAll_app a b)
theorem dpAll_rep {K : PySem.W.Frag} {H : Hp} {xs : List V} {ds : List PyData} (h : DpAll K H xs ds) : ∀ k, DpAll K H (List.replicate k xs).flatten (List.replicate k ds).flatten
  | 0 => .nil
  | k + 1 => by
    rw [List.replicate_succ, List.replicate_succ, List.flatten_cons, List.flatten_cons]
    exact dpAll_app h (dpAll_rep h k)
theorem dpAll_drop {K : PySem.W.Frag} {H : Hp} : ∀ (n : Nat) {xs : List V} {ds : List PyData}, DpAll K H xs ds → DpAll K H (xs.drop n) (ds.drop n)
  | 0, _, _, h => h
  | _ + 1, _, _, .nil => .nil
  | n + 1, _, _, .cons _ a => dpAll_drop n a
theorem dpAll_take {K : PySem.W.Frag} {H : Hp} : ∀ (n : Nat) {xs : List V} {ds : List PyData}, DpAll K H xs ds → DpAll K H (xs.take n) (ds.take n)
  | 0, _, _, _ => .nil
  | _ + 1, _, _, .nil => .nil
  | n + 1, _, _, .cons h a => .cons h (dpAll_take n a)
section
variable {X : Cx}
theorem op_mulD : OpR X (binaryOp .Mult) (rMulD X.K) := by
  intro pins s σ H x y v u Q I rx ry h
  obtain ⟨ds, k, hx, rfl, hne, h1, h2, h3, q⟩ := h
  obtain ⟨l, xs, rfl, hT, ha⟩ := lenT hx
  have hl := DpAll.length ha
  have nx : xs ≠ [] := fun e => hne (by rw [e] at hl; exact List.eq_nil_of_length_eq_zero hl.symm)
  by_cases hk : k = 1
  · subst hk
    cases rx
    obtain ⟨t, rfl⟩ := ry
    obtain ⟨its, r, ⟨⟨cls, dd, data, sl⟩, ho, hc, n, hd⟩, _⟩ := I.tuple hT
    simp only at hc hd
    subst hc hd
    refine wpAny_binaryOp_repeat_ref (T := "tuple") (U := "int") (by decide) ⟨_, ho, rfl⟩ (fun s' => typeIs_int s' 1 t) noFill_tuple_mul F.fills_int_mul F.slot_int_rmul repeat_tuple F.slot_int_index.lookup
      (call_meets F.slot_int_rmul (typeIs_int s 1 t) F.entry_int_rmul (F.args_int_rmul_2 _ _) (int_rmul_tuple 1 t l its.toArray n dd sl) ⟨ho, rfl, ⟨_, ho, rfl⟩, call_meets F.slot_tuple_mul ⟨_, ho, rfl⟩ F.entry_tuple_mul (F.args_tuple_mul_2 _ _) (tuple_mul_same l its.toArray n dd sl t) ⟨ho, ?_⟩⟩)
    refine ⟨.ref l, H, I.kept (t' := s.toks) (fun _ _ z => z), rfl, q H _ (.refl _) ?_⟩
    simpa using hx
  · refine op_repT pins s σ H _ _ v u Q I rx ry ⟨l, k, xs, rfl, rfl, hT, nx, by omega, by omega, by omega, fun p hp => q _ _ (.new hp) ?_⟩
    rw [Int.toNat_natCast]
    exact .tup (SqT.of upd_same) ((Gr.new hp).dpAll (dpAll_rep ha k))
/-- tuple + tuple, as data -/
def rCatD (K : PySem.W.Frag) : R2 := fun x y H Q => ∃ (ds es : List PyData), Dp K H x (.tuple ds) ∧ Dp K H y (.tuple es) ∧ ds.length + es.length ≤ 1000 ∧ ∀ H' v, Gr H H' → Dp K H' v (.tuple (ds ++ es)) → Q v H'
theorem op_catD : OpR X (binaryOp .Add) (rCatD X.K) := by
  intro pins s σ H x y v u Q I rx ry h
  obtain ⟨ds, es, hx, hy, hz, q⟩ := h
  obtain ⟨a, xs, rfl, hT, ha⟩ := lenT hx
  obtain ⟨b, ys, rfl, hU, hb⟩ := lenT hy
  have l1 := DpAll.length ha
  have l2 := DpAll.length hb
  refine op_catA pins s σ H _ _ v u Q I rx ry ⟨a, b, xs, ys, rfl, rfl, hT, hU, by rw [sizeLine_eq]; omega, fun e => q _ _ (.refl _) ?_, fun _ e => q _ _ (.refl _) ?_, fun _ _ p hp => q _ _ (.new hp) (.tup (SqT.of upd_same) ((Gr.new hp).dpAll (dpAll_app ha hb)))⟩
  · subst e
    cases ha
    exact hy
  · subst e
    cases hb
    rw [List.append_nil]
    exact hx
/-- a tuple's slice, as data -/
def cutD (ds : List PyData) (lo hi : Option Int) : List PyData := (ds.drop (HT.sIx ds.length 0 lo)).take (HT.sIx ds.length ds.length hi - HT.sIx ds.length 0 lo)
def rSlD (K : PySem.W.Frag) : V → Option Int → Option Int → Hp → VK → Prop := fun x lo hi H Q => ∃ (ds : List PyData), Dp K H x (.tuple ds) ∧ ∀ H' v, Gr H H' → Dp K H' v (.tuple (cutD ds lo hi)) → Q v H'
theorem sl_D : SlR X (rSlD X.K) := by
  intro pins s σ H x v vl vu lo hi sl Q I rx hs pl pu h
  obtain ⟨ds, hx, q⟩ := h
  obtain ⟨a, xs, rfl, hT, ha⟩ := lenT hx
  have hl := DpAll.length ha
  refine sl_tupA pins s σ H _ v vl vu lo hi sl Q I rx hs pl pu ⟨a, xs, rfl, hT, fun hw => q _ _ (.refl _) ?_, fun _ p hp => q _ _ (.new hp) ?_⟩
  · rw [hl] at hw
    have e : cutD ds lo hi = ds := by
      unfold cutD
      rw [hw.1, hw.2, List.drop_zero, Nat.sub_zero, List.take_length]
    rw [e]
    exact hx
  · refine .tup (SqT.of upd_same) ((Gr.new hp).dpAll ?_)
    unfold cutV cutD
    rw [hl]
    exact dpAll_take _ (dpAll_drop _ ha)
/-- list(tuple), as data -/
def rLstD (K : PySem.W.Frag) : List V → Hp → VK → Prop := fun xs H Q => ∃ (v : V) (ds : List PyData), xs = [v] ∧ Dp K H v (.tuple ds) ∧ ∀ H' v, Gr H H' → Dp K H' v (.list ds) → Q v H'
theorem call_listD : CallR X (.type "list") (rLstD X.K) := by
  intro pins s σ H xs us Q I r h
  obtain ⟨v, ds, rfl, hv, q⟩ := h
  obtain ⟨p, ys, rfl, hT, ha⟩ := lenT hv
  exact call_list_of pins s σ H _ us Q I r ⟨p, ys, rfl, .inr hT, fun l hl => q _ _ (.new hl) (.lst (SqL.of upd_same) ((Gr.new hl).dpAll ha))⟩
end
/-! ### expressions that make data -/
section
variable {K : PySem.W.Frag} {B : Hp → Prop} {σ : L2.St}
/-- what is known stays known -/
def Stays (B : Hp → Prop) : Prop := ∀ H H', Gr H H' → B H → B H'
def Mk (K : PySem.W.Frag) (B : Hp → Prop) (σ : L2.St) (t : TE) (d : PyData) : Prop := ∀ H, B H → ∀ Q : VK, (∀ H' v, Gr H H' → Dp K H' v d → Q v H') → t σ H Q
def MkA (K : PySem.W.Frag) (B : Hp → Prop) (σ : L2.St) (t : TA) (ds : List PyData) : Prop := ∀ H, B H → ∀ Q : List V → Hp → Prop, (∀ H' vs, Gr H H' → DpAll K H' vs ds → Q vs H') → t σ H Q
theorem mk_var {i : Nat} {v : V} {d : PyData} (e : σ[i]? = some (some v)) (h : ∀ H, B H → Dp K H v d) : Mk K B σ (tVar i) d := fun H b Q q => ⟨v, e, q H v (.refl _) (h H b)⟩
theorem mk_c {v : V} {d : PyData} (h : ∀ H, Dp K H v d) : Mk K B σ (tC v) d := fun H _ Q q => q H v (.refl _) (h H)
theorem mk_int (i : Int) : Mk K B σ (tC (.int i)) (.int i) := mk_c fun _ => .int i
theorem mk_bl (b : Bool) : Mk K B σ (tC (.bl b)) (.bool b) := mk_c fun _ => .bl b
theorem mk_str (x : Str) : Mk K B σ (tC (.str x)) (.str x) := mk_c fun _ => .str x
theorem mk_non : Mk K B σ (tC .non) .none := mk_c fun _ => .non
theorem mk_neg {t : TE} {i : Int} (h : Mk K B σ t (.int i)) : Mk K B σ (tUn (rU fun i => .int (-i)) t) (.int (-i)) := fun H b Q q => h H b _ fun H' v g hv => by
  cases hv
  exact ⟨i, rfl, q H' _ g (.int _)⟩
theorem mk_add {t u : TE} {i j : Int} (hB : Stays B) (h : Mk K B σ t (.int i)) (h2 : Mk K B σ u (.int j)) : Mk K B σ (tOp (rI0 fun i j => .int (i + j)) t u) (.int (i + j)) := fun H b Q q => h H b _ fun H1 v g hv => h2 H1 (hB _ _ g b) _ fun H2 u g2 hu => by
  cases hv
  cases hu
  exact ⟨i, j, rfl, rfl, q H2 _ (g.trans g2) (.int _)⟩
theorem mkA_nil : MkA K B σ tNil [] := fun H _ Q q => q H [] (.refl _) .nil
theorem mkA_cons {t : TE} {ts : TA} {d : PyData} {ds : List PyData} (hB : Stays B) (h : Mk K B σ t d) (hs : MkA K B σ ts ds) : MkA K B σ (tCons t ts) (d :: ds) := fun H b Q q =>
  h H b _ fun H1 v g hv => hs H1 (hB _ _ g b) _ fun H2 vs g2 hvs => q H2 (v :: vs) (g.trans g2) (.cons (g2.dp hv) hvs)
theorem mk_tup {ts : TA} {ds : List PyData} (h : MkA K B σ ts ds) (hl : ds.length ≤ 1000 := by simp) : Mk K B σ (tTup ts) (.tuple ds) := fun H b Q q => h H b _ fun H1 vs g hvs =>
  ⟨by have := DpAll.length hvs; rw [sizeLine_eq]; omega, fun p hp => q _ _ (g.trans (.new hp)) (.tup (SqT.of upd_same) ((Gr.new hp).dpAll hvs))⟩
theorem mk_lst {ts : TA} {ds : List PyData} (h : MkA K B σ ts ds) (hl : ds.length ≤ 1000 := by simp) : Mk K B σ (tLst ts) (.list ds) := fun H b Q q => h H b _ fun H1 vs g hvs =>
  ⟨by have := DpAll.length hvs; rw [sizeLine_eq]; omega, fun p hp => q _ _ (g.trans (.new hp)) (.lst (SqL.of upd_same) ((Gr.new hp).dpAll hvs))⟩
theorem mk_mul {t u : TE} {ds : List PyData} {k : Nat} (hB : Stays B) (h : Mk K B σ t (.tuple ds)) (h2 : Mk K B σ u (.int k)) (hne : ds ≠ []) (h1 : 1 ≤ k) (h3 : k ≤ 1000) (h4 : ds.length ≤ 1000) : Mk K B σ (tOp (rMulD K) t u) (.tuple (List.replicate k ds).flatten) := fun H b Q q =>
  h H b _ fun H1 v g hv => h2 H1 (hB _ _ g b) _ fun H2 u g2 hu => by
    cases hu
    exact ⟨ds, k, g2.dp hv, rfl, hne, h1, h3, h4, fun H3 w g3 hw => q H3 w ((g.trans g2).trans g3) hw⟩
theorem mk_mul1 {t u : TE} {d : PyData} {k : Nat} (hB : Stays B) (h : Mk K B σ t (.tuple [d])) (h2 : Mk K B σ u (.int k)) (h1 : 1 ≤ k) (h3 : k ≤ 1000) : Mk K B σ (tOp (rMulD K) t u) (.tuple (List.replicate k d)) := by
  have z := mk_mul hB h h2 (by simp) h1 h3 (by simp)
  have e : ∀ k, (List.replicate k [d]).flatten = List.replicate k d := fun k => by
    induction k with
    | zero => rfl
    | succ k ih => rw [List.replicate_succ, List.flatten_cons, ih, List.replicate_succ]; rfl
  rwa [e] at z
theorem mk_cat {t u : TE} {ds es : List PyData} (hB : Stays B) (h : Mk K B σ t (.tuple ds)) (h2 : Mk K B σ u (.tuple es)) (hl : ds.length + es.length ≤ 1000) : Mk K B σ (tOp (rCatD K) t u) (.tuple (ds ++ es)) := fun H b Q q =>
  h H b _ fun H1 v g hv => h2 H1 (hB _ _ g b) _ fun H2 u g2 hu => ⟨ds, es, g2.dp hv, hu, hl, fun H3 w g3 hw => q H3 w ((g.trans g2).trans g3) hw⟩
theorem mk_from {t : TE} {ds : List PyData} {i : Int} (h : Mk K B σ t (.tuple ds)) : Mk K B σ (tSl (rSlD K) t (tPart (tC (.int i))) tNoPart) (.tuple (cutD ds (some i) none)) := fun H b Q q =>
  h H b _ fun H1 v g hv => ⟨i, rfl, ds, hv, fun H3 w g3 hw => q H3 w (g.trans g3) hw⟩
theorem mk_to {t : TE} {ds : List PyData} {i : Int} (h : Mk K B σ t (.tuple ds)) : Mk K B σ (tSl (rSlD K) t tNoPart (tPart (tC (.int i)))) (.tuple (cutD ds none (some i))) := fun H b Q q =>
  h H b _ fun H1 v g hv => ⟨i, rfl, ds, hv, fun H3 w g3 hw => q H3 w (g.trans g3) hw⟩
theorem mk_listOf {t : TE} {ds : List PyData} (hB : Stays B) (h : Mk K B σ t (.tuple ds)) : Mk K B σ (tCB (rLstD K) (tCons t tNil)) (.list ds) := fun H b Q q =>
  h H b _ fun H1 v g hv => ⟨v, ds, rfl, hv, fun H3 w g3 hw => q H3 w (g.trans g3) hw⟩
/-- a list of data that stands by itself -/
def LstAt (K : PySem.W.Frag) (H : Hp) (p : Addr) (ds : List PyData) : Prop := ∃ xs, H p = some (.lst xs) ∧ DpAll K H xs ds
theorem LstAt.gr {H H' : Hp} {p : Addr} {ds : List PyData} (h : LstAt K H p ds) (g : Gr H H') : LstAt K H' p ds := by
  obtain ⟨xs, e, a⟩ := h
  exact ⟨xs, g.lst e, g.dpAll a⟩
theorem mk_bad0 {ts : TA} {ds : List PyData} {H : Hp} {Q : VK} (h : MkA K B σ ts ds) (b : B H) (hl : ds.length ≤ 1000) (q : ∀ H' p, Gr H H' → LstAt K H' p ds → Q (.ref p) H') : tLst ts σ H Q := h H b _ fun H1 vs g hvs =>
  ⟨by have := DpAll.length hvs; rw [sizeLine_eq]; omega, fun p hp => q _ _ (g.trans (.new hp)) ⟨_, upd_same, (Gr.new hp).dpAll hvs⟩⟩
theorem mk_bad {i : Nat} {p : Addr} {ts : TA} {ds es : List PyData} {H : Hp} {Q : VK} (e : σ[i]? = some (some (.ref p))) (hb : LstAt K H p ds) (h : MkA K B σ ts es) (b : B H) (hl : ds.length + es.length ≤ 1000) (q : ∀ H' p, Gr H H' → LstAt K H' p (ds ++ es) → Q (.ref p) H') : tOp rCat (tVar i) (tLst ts) σ H Q :=
  ⟨.ref p, e, h H b _ fun H1 vs g hvs => ⟨by have := DpAll.length hvs; rw [sizeLine_eq]; omega, fun r hr => by
    obtain ⟨xs, e1, a1⟩ := hb.gr (g.trans (.new hr))
    have l1 := DpAll.length a1
    have l2 := DpAll.length hvs
    exact ⟨p, r, xs, vs, rfl, rfl, e1, upd_same, by rw [sizeLine_eq]; omega, fun z hz => q _ _ ((g.trans (.new hr)).trans (.new hz)) ⟨_, upd_same, (Gr.new hz).dpAll (dpAll_app a1 ((Gr.new hr).dpAll hvs))⟩⟩⟩⟩
end
end K74
/-! ## Mb -/
set_option Elab.async false
set_option linter.all false
set_option maxRecDepth 100000
set_option maxHeartbeats 4000000
namespace K74
open PySem PySem.Spec PyProof.Rows L2 He Kx Gx GxR
open Ns (rulD rulK)
/-! ### sizes by levels -/
structure SmJ (j : Nat) (d : PyData) : Prop where
  is : Sm d (7 * 10 ^ j) j
theorem SmJ.of {d : PyData} (h : Sm d 7 0) : SmJ 0 d := ⟨h⟩
theorem SmJ.up {i j : Nat} {d : PyData} (h : SmJ i d) (hij : i ≤ j) : SmJ j d := ⟨h.is.mono (Nat.mul_le_mul_left _ (Nat.pow_le_pow_right (by decide) hij)) hij⟩
def SmA (j : Nat) (ds : List PyData) : Prop := ∀ d ∈ ds, SmJ j d
theorem smA_nil {j : Nat} : SmA j [] := fun d hd => by cases hd
theorem smA_cons {j : Nat} {d : PyData} {ds : List PyData} (h : SmJ j d) (hs : SmA j ds) : SmA j (d :: ds) := fun x hx => by
  rcases List.mem_cons.mp hx with e | hx
  · rw [e]; exact h
  · exact hs x hx
theorem smA_app {j : Nat} {ds es : List PyData} (h : SmA j ds) (hs : SmA j es) : SmA j (ds ++ es) := fun x hx => by
  rcases List.mem_append.mp hx with hx | hx
  · exact h x hx
  · exact hs x hx
theorem pow_pos' (j : Nat) : 1 ≤ 10 ^ j := Nat.pow_pos (by decide)
theorem smJ_tup {j : Nat} {ds : List PyData} (h : SmA j ds) (hl : ds.length ≤ 6) : SmJ (j + 1) (.tuple ds) := ⟨(sm_tup fun d hd => (h d hd).is).mono (by
  have h1 := pow_pos' j
  have h2 : ds.length * (7 * 10 ^ j + 1) ≤ 6 * (7 * 10 ^ j + 1) := Nat.mul_le_mul_right _ hl
  rw [Nat.pow_succ]
  omega) (Nat.le_refl _)⟩
theorem sm_conv {j : Nat} {ds : List PyData} {n p : Nat} (h : Sm (.tuple ds) n p) : Sm (.list ds) n p := by
  obtain ⟨a1, a2, a3, a4, a5⟩ := h
  exact ⟨by simpa only [PyData.canLay0] using a1, by simpa only [PyData.intsShort] using a2, by simpa only [PyData.showable] using a3, by simpa only [PyData.weight] using a4, by simpa only [PyData.depth] using a5⟩
theorem smJ_list {j : Nat} {ds : List PyData} (h : SmJ j (.tuple ds)) : SmJ j (.list ds) := ⟨sm_conv (j := 0) h.is⟩
/-- of a tuple's items -/
theorem sm_item {n p : Nat} : ∀ {ds : List PyData}, PyData.canLayAll0 ds = true → PyData.intsShortAll 13 ds = true → PyData.showableAll ds = true → PyData.weightAll ds ≤ n → PyData.depthAll ds ≤ p → ds.length ≤ n ∧ ∀ d ∈ ds, Sm d n p
  | [], _, _, _, _, _ => ⟨Nat.zero_le _, fun d hd => by cases hd⟩
  | x :: xs, a1, a2, a3, a4, a5 => by
    rw [PyData.canLayAll0, Bool.and_eq_true] at a1
    rw [PyData.intsShortAll, Bool.and_eq_true] at a2
    rw [PyData.showableAll, Bool.and_eq_true] at a3
    rw [PyData.weightAll] at a4
    rw [PyData.depthAll] at a5
    obtain ⟨l, ih⟩ := sm_item (n := n - (PyData.weight x + 1)) a1.2 a2.2 a3.2 (by omega) (show PyData.depthAll xs ≤ p by omega)
    refine ⟨by rw [List.length_cons]; omega, fun d hd => ?_⟩
    rcases List.mem_cons.mp hd with e | hd
    · rw [e]
      exact ⟨a1.1, a2.1, a3.1, by omega, by omega⟩
    · exact (ih d hd).mono (by omega) (Nat.le_refl _)
theorem sm_items {n p : Nat} {ds : List PyData} (h : Sm (.tuple ds) n p) : ds.length ≤ n ∧ ∀ d ∈ ds, Sm d n p := by
  obtain ⟨a1, a2, a3, a4, a5⟩ := h
  rw [PyData.canLay0] at a1
  rw [PyData.intsShort] at a2
  rw [PyData.showable] at a3
  rw [PyData.weight] at a4
  rw [PyData.depth] at a5
  exact sm_item a1 a2 a3 a4 (by omega)
/-- a slice, a sum of tuples -/
theorem sm_sub {n p : Nat} {ds : List PyData} (h : Sm (.tuple ds) n p) (f : List PyData → List PyData) (hf : f = List.drop 0 ∨ (∃ i, f = List.drop i) ∨ ∃ i, f = List.take i) : Sm (.tuple (f ds)) n p := by
  have key : ∀ (i : Nat) (xs : List PyData), (PyData.canLayAll0 xs = true → PyData.canLayAll0 (xs.drop i) = true ∧ PyData.canLayAll0 (xs.take i) = true) ∧ (PyData.intsShortAll 13 xs = true → PyData.intsShortAll 13 (xs.drop i) = true ∧ PyData.intsShortAll 13 (xs.take i) = true) ∧
      (PyData.showableAll xs = true → PyData.showableAll (xs.drop i) = true ∧ PyData.showableAll (xs.take i) = true) ∧ PyData.weightAll (xs.drop i) ≤ PyData.weightAll xs ∧ PyData.weightAll (xs.take i) ≤ PyData.weightAll xs ∧ PyData.depthAll (xs.drop i) ≤ PyData.depthAll xs ∧ PyData.depthAll (xs.take i) ≤ PyData.depthAll xs := by
    intro i
    induction i with
    | zero => intro xs; simp [PyData.canLayAll0, PyData.intsShortAll, PyData.showableAll, PyData.weightAll, PyData.depthAll]
    | succ i ih =>
      intro xs
      cases xs with
      | nil => simp [PyData.canLayAll0, PyData.intsShortAll, PyData.showableAll, PyData.weightAll, PyData.depthAll]
      | cons x xs =>
        obtain ⟨b1, b2, b3, b4, b5, b6, b7⟩ := ih xs
        simp only [List.drop_succ_cons, List.take_succ_cons, PyData.canLayAll0, PyData.intsShortAll, PyData.showableAll, PyData.weightAll, PyData.depthAll, Bool.and_eq_true]
        refine ⟨fun z => ⟨(b1 z.2).1, z.1, (b1 z.2).2⟩, fun z => ⟨(b2 z.2).1, z.1, (b2 z.2).2⟩, fun z => ⟨(b3 z.2).1, z.1, (b3 z.2).2⟩, by omega, by omega, by omega, by omega⟩
  obtain ⟨a1, a2, a3, a4, a5⟩ := h
  rw [PyData.canLay0] at a1
  rw [PyData.intsShort] at a2
  rw [PyData.showable] at a3
  rw [PyData.weight] at a4
  rw [PyData.depth] at a5
  rcases hf with e | ⟨i, e⟩ | ⟨i, e⟩
  · obtain ⟨b1, b2, b3, b4, b5, b6, b7⟩ := key 0 ds
    subst e
    exact ⟨by rw [PyData.canLay0]; exact (b1 a1).1, by rw [PyData.intsShort]; exact (b2 a2).1, by rw [PyData.showable]; exact (b3 a3).1, by rw [PyData.weight]; omega, by rw [PyData.depth]; omega⟩
  · obtain ⟨b1, b2, b3, b4, b5, b6, b7⟩ := key i ds
    subst e
    exact ⟨by rw [PyData.canLay0]; exact (b1 a1).1, by rw [PyData.intsShort]; exact (b2 a2).1, by rw [PyData.showable]; exact (b3 a3).1, by rw [PyData.weight]; omega, by rw [PyData.depth]; omega⟩
  · obtain ⟨b1, b2, b3, b4, b5, b6, b7⟩ := key i ds
    subst e
    exact ⟨by rw [PyData.canLay0]; exact (b1 a1).2, by rw [PyData.intsShort]; exact (b2 a2).2, by rw [PyData.showable]; exact (b3 a3).2, by rw [PyData.weight]; omega, by rw [PyData.depth]; omega⟩
theorem smJ_cut {j : Nat} {ds : List PyData} {lo hi : Option Int} (h : SmJ j (.tuple ds)) : SmJ j (.tuple (cutD ds lo hi)) := ⟨sm_sub (sm_sub h.is (List.drop _) (.inr (.inl ⟨_, rfl⟩))) (List.take _) (.inr (.inr ⟨_, rfl⟩))⟩
theorem sm_cat {n p : Nat} {es : List PyData} (h2 : Sm (.tuple es) n p) : ∀ {ds : List PyData}, Sm (.tuple ds) n p → Sm (.tuple (ds ++ es)) (n + n) p := by
  have key : ∀ ds : List PyData, PyData.canLayAll0 (ds ++ es) = (PyData.canLayAll0 ds && PyData.canLayAll0 es) ∧ PyData.intsShortAll 13 (ds ++ es) = (PyData.intsShortAll 13 ds && PyData.intsShortAll 13 es) ∧ PyData.showableAll (ds ++ es) = (PyData.showableAll ds && PyData.showableAll es) ∧
      PyData.weightAll (ds ++ es) = PyData.weightAll ds + PyData.weightAll es ∧ PyData.depthAll (ds ++ es) = max (PyData.depthAll ds) (PyData.depthAll es) := fun ds => by
    induction ds with
    | nil => simp [PyData.canLayAll0, PyData.intsShortAll, PyData.showableAll, PyData.weightAll, PyData.depthAll]
    | cons x ds ih =>
      obtain ⟨b1, b2, b3, b4, b5⟩ := ih
      simp only [List.cons_append, PyData.canLayAll0, PyData.intsShortAll, PyData.showableAll, PyData.weightAll, PyData.depthAll, b1, b2, b3, b4, b5, Bool.and_assoc]
      refine ⟨?_, ?_, ?_, ?_, ?_⟩ <;> first | trivial | omega
  intro ds h
  obtain ⟨a1, a2, a3, a4, a5⟩ := h
  obtain ⟨c1, c2, c3, c4, c5⟩ := h2
  obtain ⟨b1, b2, b3, b4, b5⟩ := key ds
  rw [PyData.canLay0] at a1 c1
  rw [PyData.intsShort] at a2 c2
  rw [PyData.showable] at a3 c3
  rw [PyData.weight] at a4 c4
  rw [PyData.depth] at a5 c5
  exact ⟨by rw [PyData.canLay0, b1, a1, c1]; rfl, by rw [PyData.intsShort, b2, a2, c2]; rfl, by rw [PyData.showable, b3, a3, c3]; rfl, by rw [PyData.weight, b4]; omega, by rw [PyData.depth, b5]; omega⟩
theorem smJ_cat {j : Nat} {ds es : List PyData} (h : SmJ j (.tuple ds)) (h2 : SmJ j (.tuple es)) : SmJ (j + 1) (.tuple (ds ++ es)) := ⟨(sm_cat h2.is h.is).mono (by rw [Nat.pow_succ]; omega) (Nat.le_succ _)⟩
theorem smJ_rep {d : PyData} {k : Nat} (h : SmJ 0 d) (hk : k ≤ 6) : SmJ 1 (.tuple (List.replicate k d)) := smJ_tup (fun x hx => by rw [List.eq_of_mem_replicate hx]; exact h) (by rw [List.length_replicate]; exact hk)
theorem sm_word : SmJ 0 (.str "grammar") := ⟨⟨by decide +kernel, rfl, rfl, by decide +kernel, Nat.le_refl _⟩⟩
/-- few rules, by the size -/
theorem sz_of_sm {n p : Nat} {d : PyData} (h : Sm d n p) (hn : n ≤ 100000000) : szD d := by
  intro a b c rs e
  subst e
  have h1 := (sm_items h).2 (.tuple rs) (by simp)
  have h2 := (sm_items h1).1
  omega
/-! ### what a drawn grammar gives -/
def R0L (k n : Nat) : List PyData := [.int 0, .tuple (List.replicate k (.int 1)), .tuple (List.replicate n (.int 0))]
def R0 (k n : Nat) : PyData := .tuple (R0L k n)
section
variable {k n : Nat} {st : List Int} {rs : List Rul}
theorem GrmOk.smk (h : GrmOk k n st rs) : SmJ 0 (.int k) := .of (sm_int (by omega) (by have := h.k3; omega))
theorem GrmOk.smn (h : GrmOk k n st rs) : SmJ 0 (.int n) := .of (sm_int (by omega) (by have := h.n4; omega))
theorem GrmOk.smg (h : GrmOk k n st rs) : SmJ 4 (.tuple [.int k, .int n, .tuple (st.map .int), .tuple (rs.map rulD)]) := ⟨(h.sm).mono (by decide) (Nat.le_refl _)⟩
theorem GrmOk.sms (h : GrmOk k n st rs) : SmJ 1 (.tuple (st.map .int)) := smJ_tup (fun d hd => by
  obtain ⟨z, hz, rfl⟩ := List.mem_map.mp hd
  have := h.sb z hz
  exact .of (sm_int (by omega) (by omega))) (by rw [List.length_map, h.sl]; have := h.n4; omega)
theorem GrmOk.smr (h : GrmOk k n st rs) : SmJ 3 (.tuple (rs.map rulD)) := ⟨(sm_tup (n := 300) (p := 2) fun d hd => by
  obtain ⟨r, hr, rfl⟩ := List.mem_map.mp hd
  exact (h.ok r hr).sm h.k3 h.n4).mono (by rw [List.length_map]; have := h.rl; omega) (Nat.le_refl _)⟩
theorem GrmOk.lk (h : GrmOk k n st rs) : k ≤ 6 := by have := h.k3; omega
theorem GrmOk.ln (h : GrmOk k n st rs) : n ≤ 6 := by have := h.n4; omega
theorem GrmOk.lk1 (h : GrmOk k n st rs) : k + 1 ≤ 6 := by have := h.k3; omega
theorem GrmOk.ln1 (h : GrmOk k n st rs) : n + 1 ≤ 6 := by have := h.n4; omega
theorem GrmOk.kt (h : GrmOk k n st rs) : k ≤ 1000 := by have := h.k3; omega
theorem GrmOk.nt (h : GrmOk k n st rs) : n ≤ 1000 := by have := h.n4; omega
theorem GrmOk.kt1 (h : GrmOk k n st rs) : k + 1 ≤ 1000 := by have := h.k3; omega
theorem GrmOk.nt1 (h : GrmOk k n st rs) : n + 1 ≤ 1000 := by have := h.n4; omega
theorem GrmOk.k1' (h : GrmOk k n st rs) : 1 ≤ k := h.k1
theorem GrmOk.n1' (h : GrmOk k n st rs) : 1 ≤ n := h.n1
theorem GrmOk.sm0 (h : GrmOk k n st rs) : SmJ 2 (R0 k n) := smJ_tup (smA_cons ((SmJ.of (sm_int (by decide) (by decide))).up (by decide)) (smA_cons (smJ_rep (.of (sm_int (by decide) (by decide))) h.lk) (smA_cons (smJ_rep (.of (sm_int (by decide) (by decide))) h.ln) smA_nil))) (by show 3 ≤ 6; decide)
end
theorem cut_len (ds : List PyData) (lo hi : Option Int) : (cutD ds lo hi).length ≤ ds.length := by
  unfold cutD
  rw [List.length_take, List.length_drop]
  omega
def badD (k n : Nat) (st : List Int) (rs : List Rul) : List PyData := [.none,
  (.int 7),
  (.str "grammar"),
  (.list [.int k, .int n, .tuple (st.map .int), .tuple (rs.map rulD)]),
  (.tuple (cutD [.int k, .int n, .tuple (st.map .int), .tuple (rs.map rulD)] none (some 3))),
  (.tuple ([.int k, .int n, .tuple (st.map .int), .tuple (rs.map rulD)] ++ [(.tuple [])])),
  (.tuple [(.int 0), (.int n), (.tuple (st.map .int)), (.tuple [])]),
  (.tuple [(.int 4), (.int n), (.tuple (st.map .int)), (.tuple [])])] ++ [(.tuple [(.bool true), (.int n), (.tuple (st.map .int)), (.tuple [])]),
  (.tuple [(.int k), (.int 0), (.tuple []), (.tuple [])]),
  (.tuple [(.int k), (.bool true), (.tuple [(.int 1)]), (.tuple [])]),
  (.tuple [(.int k), (.int n), (.list (st.map .int)), (.tuple (rs.map rulD))]),
  (.tuple [(.int k), (.int n), (.tuple ((st.map .int) ++ [(.int 0)])), (.tuple [])])] ++ [(.tuple [(.int k), (.int n), (.tuple ([(.int (-1))] ++ (cutD (st.map .int) (some 1) none))), (.tuple [])]),
  (.tuple [(.int k), (.int n), (.tuple ([(.bool true)] ++ (cutD (st.map .int) (some 1) none))), (.tuple (rs.map rulD))]),
  (.tuple [(.int k), (.int n), (.tuple (st.map .int)), (.list (rs.map rulD))])] ++ [(.tuple [(.int k), (.int n), (.tuple (st.map .int)), (.tuple [(R0 k n), (R0 k n)])]),
  (.tuple [(.int k), (.int n), (.tuple (st.map .int)), (.tuple [(.tuple ([(.int n)] ++ (cutD (R0L k n) (some 1) none)))])]),
  (.tuple [(.int k), (.int n), (.tuple (st.map .int)), (.tuple [(.tuple ([(.int (-1))] ++ (cutD (R0L k n) (some 1) none)))])])] ++ [(.tuple [(.int k), (.int n), (.tuple (st.map .int)), (.tuple [(.list (R0L k n))])]),
  (.tuple [(.int k), (.int n), (.tuple (st.map .int)), (.tuple [(.tuple (cutD (R0L k n) none (some 2)))])]),
  (.tuple [(.int k), (.int n), (.tuple (st.map .int)), (.tuple [(.tuple [(.int 0), (.tuple (List.replicate (k + 1) (.int 1))), (.tuple (List.replicate n (.int 0)))])])])] ++ [(.tuple [(.int k), (.int n), (.tuple (st.map .int)), (.tuple [(.tuple [(.int 0), (.tuple (List.replicate k (.int (-1)))), (.tuple (List.replicate n (.int 0)))])])]),
  (.tuple [(.int k), (.int n), (.tuple (st.map .int)), (.tuple [(.tuple [(.int 0), (.tuple (List.replicate k (.int 1))), (.tuple (List.replicate (n + 1) (.int 0)))])])])] ++ [(.tuple [(.int k), (.int n), (.tuple (st.map .int)), (.tuple [(.tuple [(.int 0), (.tuple (List.replicate k (.int 1))), (.tuple (List.replicate n (.bool true)))])])]),
  (.tuple [(.int k), (.int n), (.tuple (st.map .int)), (.tuple [(.tuple ([(.bool false)] ++ (cutD (R0L k n) (some 1) none)))])])] ++ [(.tuple [(.int k), (.int n), (.tuple (st.map .int)), (.tuple [(R0 k n), (.tuple [(.int 0), (.tuple (List.replicate k (.int 0))), (.tuple (List.replicate n (.int 0)))])])])]
theorem badD_sm {k n : Nat} {st : List Int} {rs : List Rul} (h : GrmOk k n st rs) : ∀ d ∈ badD k n st rs, SmJ 5 d := by
  unfold badD
  exact (smA_app (smA_app (smA_app (smA_app (smA_app (smA_app (smA_app (smA_cons (SmJ.up (i := 0) (j := 5) (SmJ.of sm_none) (by decide)) (smA_cons (SmJ.up (i := 0) (j := 5) (SmJ.of (sm_int (by decide) (by decide))) (by decide)) (smA_cons (SmJ.up (i := 0) (j := 5) sm_word (by decide)) (smA_cons (SmJ.up (i := 4) (j := 5) (smJ_list h.smg) (by decide)) (smA_cons (SmJ.up (i := 4) (j := 5) (smJ_cut h.smg) (by decide)) (smA_cons (smJ_cat (j := 4) h.smg (SmJ.up (i := 2) (j := 4) (smJ_tup (j := 1) (smA_cons (smJ_tup (j := 0) smA_nil (by simp)) smA_nil) (by simp)) (by decide))) (smA_cons (SmJ.up (i := 2) (j := 5) (smJ_tup (j := 1) (smA_cons (SmJ.up (i := 0) (j := 1) (SmJ.of (sm_int (by decide) (by decide))) (by decide)) (smA_cons (SmJ.up (i := 0) (j := 1) h.smn (by decide)) (smA_cons h.sms (smA_cons (smJ_tup (j := 0) smA_nil (by simp)) smA_nil)))) (by simp)) (by decide)) (smA_cons (SmJ.up (i := 2) (j := 5) (smJ_tup (j := 1) (smA_cons (SmJ.up (i := 0) (j := 1) (SmJ.of (sm_int (by decide) (by decide))) (by decide)) (smA_cons (SmJ.up (i := 0) (j := 1) h.smn (by decide)) (smA_cons h.sms (smA_cons (smJ_tup (j := 0) smA_nil (by simp)) smA_nil)))) (by simp)) (by decide)) smA_nil))))))))
    (smA_cons (SmJ.up (i := 2) (j := 5) (smJ_tup (j := 1) (smA_cons (SmJ.up (i := 0) (j := 1) (SmJ.of (sm_bool true)) (by decide)) (smA_cons (SmJ.up (i := 0) (j := 1) h.smn (by decide)) (smA_cons h.sms (smA_cons (smJ_tup (j := 0) smA_nil (by simp)) smA_nil)))) (by simp)) (by decide)) (smA_cons (SmJ.up (i := 2) (j := 5) (smJ_tup (j := 1) (smA_cons (SmJ.up (i := 0) (j := 1) h.smk (by decide)) (smA_cons (SmJ.up (i := 0) (j := 1) (SmJ.of (sm_int (by decide) (by decide))) (by decide)) (smA_cons (smJ_tup (j := 0) smA_nil (by simp)) (smA_cons (smJ_tup (j := 0) smA_nil (by simp)) smA_nil)))) (by simp)) (by decide)) (smA_cons (SmJ.up (i := 2) (j := 5) (smJ_tup (j := 1) (smA_cons (SmJ.up (i := 0) (j := 1) h.smk (by decide)) (smA_cons (SmJ.up (i := 0) (j := 1) (SmJ.of (sm_bool true)) (by decide)) (smA_cons (smJ_tup (j := 0) (smA_cons (SmJ.of (sm_int (by decide) (by decide))) smA_nil) (by simp)) (smA_cons (smJ_tup (j := 0) smA_nil (by simp)) smA_nil)))) (by simp)) (by decide)) (smA_cons (SmJ.up (i := 4) (j := 5) (smJ_tup (j := 3) (smA_cons (SmJ.up (i := 0) (j := 3) h.smk (by decide)) (smA_cons (SmJ.up (i := 0) (j := 3) h.smn (by decide)) (smA_cons (SmJ.up (i := 1) (j := 3) (smJ_list h.sms) (by decide)) (smA_cons h.smr smA_nil)))) (by simp)) (by decide)) (smA_cons (SmJ.up (i := 3) (j := 5) (smJ_tup (j := 2) (smA_cons (SmJ.up (i := 0) (j := 2) h.smk (by decide)) (smA_cons (SmJ.up (i := 0) (j := 2) h.smn (by decide)) (smA_cons (smJ_cat (j := 1) h.sms (smJ_tup (j := 0) (smA_cons (SmJ.of (sm_int (by decide) (by decide))) smA_nil) (by simp))) (smA_cons (SmJ.up (i := 1) (j := 2) (smJ_tup (j := 0) smA_nil (by simp)) (by decide)) smA_nil)))) (by simp)) (by decide)) smA_nil))))))
    (smA_cons (SmJ.up (i := 3) (j := 5) (smJ_tup (j := 2) (smA_cons (SmJ.up (i := 0) (j := 2) h.smk (by decide)) (smA_cons (SmJ.up (i := 0) (j := 2) h.smn (by decide)) (smA_cons (smJ_cat (j := 1) (smJ_tup (j := 0) (smA_cons (SmJ.of (sm_int (by decide) (by decide))) smA_nil) (by simp)) (smJ_cut h.sms)) (smA_cons (SmJ.up (i := 1) (j := 2) (smJ_tup (j := 0) smA_nil (by simp)) (by decide)) smA_nil)))) (by simp)) (by decide)) (smA_cons (SmJ.up (i := 4) (j := 5) (smJ_tup (j := 3) (smA_cons (SmJ.up (i := 0) (j := 3) h.smk (by decide)) (smA_cons (SmJ.up (i := 0) (j := 3) h.smn (by decide)) (smA_cons (SmJ.up (i := 2) (j := 3) (smJ_cat (j := 1) (smJ_tup (j := 0) (smA_cons (SmJ.of (sm_bool true)) smA_nil) (by simp)) (smJ_cut h.sms)) (by decide)) (smA_cons h.smr smA_nil)))) (by simp)) (by decide)) (smA_cons (SmJ.up (i := 4) (j := 5) (smJ_tup (j := 3) (smA_cons (SmJ.up (i := 0) (j := 3) h.smk (by decide)) (smA_cons (SmJ.up (i := 0) (j := 3) h.smn (by decide)) (smA_cons (SmJ.up (i := 1) (j := 3) h.sms (by decide)) (smA_cons (smJ_list h.smr) smA_nil)))) (by simp)) (by decide)) smA_nil))))
    (smA_cons (SmJ.up (i := 4) (j := 5) (smJ_tup (j := 3) (smA_cons (SmJ.up (i := 0) (j := 3) h.smk (by decide)) (smA_cons (SmJ.up (i := 0) (j := 3) h.smn (by decide)) (smA_cons (SmJ.up (i := 1) (j := 3) h.sms (by decide)) (smA_cons (smJ_tup (j := 2) (smA_cons h.sm0 (smA_cons h.sm0 smA_nil)) (by simp)) smA_nil)))) (by simp)) (by decide)) (smA_cons (smJ_tup (j := 4) (smA_cons (SmJ.up (i := 0) (j := 4) h.smk (by decide)) (smA_cons (SmJ.up (i := 0) (j := 4) h.smn (by decide)) (smA_cons (SmJ.up (i := 1) (j := 4) h.sms (by decide)) (smA_cons (smJ_tup (j := 3) (smA_cons (smJ_cat (j := 2) (SmJ.up (i := 1) (j := 2) (smJ_tup (j := 0) (smA_cons h.smn smA_nil) (by simp)) (by decide)) (smJ_cut h.sm0)) smA_nil) (by simp)) smA_nil)))) (by simp)) (smA_cons (smJ_tup (j := 4) (smA_cons (SmJ.up (i := 0) (j := 4) h.smk (by decide)) (smA_cons (SmJ.up (i := 0) (j := 4) h.smn (by decide)) (smA_cons (SmJ.up (i := 1) (j := 4) h.sms (by decide)) (smA_cons (smJ_tup (j := 3) (smA_cons (smJ_cat (j := 2) (SmJ.up (i := 1) (j := 2) (smJ_tup (j := 0) (smA_cons (SmJ.of (sm_int (by decide) (by decide))) smA_nil) (by simp)) (by decide)) (smJ_cut h.sm0)) smA_nil) (by simp)) smA_nil)))) (by simp)) smA_nil))))
    (smA_cons (SmJ.up (i := 4) (j := 5) (smJ_tup (j := 3) (smA_cons (SmJ.up (i := 0) (j := 3) h.smk (by decide)) (smA_cons (SmJ.up (i := 0) (j := 3) h.smn (by decide)) (smA_cons (SmJ.up (i := 1) (j := 3) h.sms (by decide)) (smA_cons (smJ_tup (j := 2) (smA_cons (smJ_list h.sm0) smA_nil) (by simp)) smA_nil)))) (by simp)) (by decide)) (smA_cons (SmJ.up (i := 4) (j := 5) (smJ_tup (j := 3) (smA_cons (SmJ.up (i := 0) (j := 3) h.smk (by decide)) (smA_cons (SmJ.up (i := 0) (j := 3) h.smn (by decide)) (smA_cons (SmJ.up (i := 1) (j := 3) h.sms (by decide)) (smA_cons (smJ_tup (j := 2) (smA_cons (smJ_cut h.sm0) smA_nil) (by simp)) smA_nil)))) (by simp)) (by decide)) (smA_cons (SmJ.up (i := 4) (j := 5) (smJ_tup (j := 3) (smA_cons (SmJ.up (i := 0) (j := 3) h.smk (by decide)) (smA_cons (SmJ.up (i := 0) (j := 3) h.smn (by decide)) (smA_cons (SmJ.up (i := 1) (j := 3) h.sms (by decide)) (smA_cons (smJ_tup (j := 2) (smA_cons (smJ_tup (j := 1) (smA_cons (SmJ.up (i := 0) (j := 1) (SmJ.of (sm_int (by decide) (by decide))) (by decide)) (smA_cons (smJ_rep (SmJ.of (sm_int (by decide) (by decide))) h.lk1) (smA_cons (smJ_rep (SmJ.of (sm_int (by decide) (by decide))) h.ln) smA_nil))) (by simp)) smA_nil) (by simp)) smA_nil)))) (by simp)) (by decide)) smA_nil))))
    (smA_cons (SmJ.up (i := 4) (j := 5) (smJ_tup (j := 3) (smA_cons (SmJ.up (i := 0) (j := 3) h.smk (by decide)) (smA_cons (SmJ.up (i := 0) (j := 3) h.smn (by decide)) (smA_cons (SmJ.up (i := 1) (j := 3) h.sms (by decide)) (smA_cons (smJ_tup (j := 2) (smA_cons (smJ_tup (j := 1) (smA_cons (SmJ.up (i := 0) (j := 1) (SmJ.of (sm_int (by decide) (by decide))) (by decide)) (smA_cons (smJ_rep (SmJ.of (sm_int (by decide) (by decide))) h.lk) (smA_cons (smJ_rep (SmJ.of (sm_int (by decide) (by decide))) h.ln) smA_nil))) (by simp)) smA_nil) (by simp)) smA_nil)))) (by simp)) (by decide)) (smA_cons (SmJ.up (i := 4) (j := 5) (smJ_tup (j := 3) (smA_cons (SmJ.up (i := 0) (j := 3) h.smk (by decide)) (smA_cons (SmJ.up (i := 0) (j := 3) h.smn (by decide)) (smA_cons (SmJ.up (i := 1) (j := 3) h.sms (by decide)) (smA_cons (smJ_tup (j := 2) (smA_cons (smJ_tup (j := 1) (smA_cons (SmJ.up (i := 0) (j := 1) (SmJ.of (sm_int (by decide) (by decide))) (by decide)) (smA_cons (smJ_rep (SmJ.of (sm_int (by decide) (by decide))) h.lk) (smA_cons (smJ_rep (SmJ.of (sm_int (by decide) (by decide))) h.ln1) smA_nil))) (by simp)) smA_nil) (by simp)) smA_nil)))) (by simp)) (by decide)) smA_nil)))
    (smA_cons (SmJ.up (i := 4) (j := 5) (smJ_tup (j := 3) (smA_cons (SmJ.up (i := 0) (j := 3) h.smk (by decide)) (smA_cons (SmJ.up (i := 0) (j := 3) h.smn (by decide)) (smA_cons (SmJ.up (i := 1) (j := 3) h.sms (by decide)) (smA_cons (smJ_tup (j := 2) (smA_cons (smJ_tup (j := 1) (smA_cons (SmJ.up (i := 0) (j := 1) (SmJ.of (sm_int (by decide) (by decide))) (by decide)) (smA_cons (smJ_rep (SmJ.of (sm_int (by decide) (by decide))) h.lk) (smA_cons (smJ_rep (SmJ.of (sm_bool true)) h.ln) smA_nil))) (by simp)) smA_nil) (by simp)) smA_nil)))) (by simp)) (by decide)) (smA_cons (smJ_tup (j := 4) (smA_cons (SmJ.up (i := 0) (j := 4) h.smk (by decide)) (smA_cons (SmJ.up (i := 0) (j := 4) h.smn (by decide)) (smA_cons (SmJ.up (i := 1) (j := 4) h.sms (by decide)) (smA_cons (smJ_tup (j := 3) (smA_cons (smJ_cat (j := 2) (SmJ.up (i := 1) (j := 2) (smJ_tup (j := 0) (smA_cons (SmJ.of (sm_bool false)) smA_nil) (by simp)) (by decide)) (smJ_cut h.sm0)) smA_nil) (by simp)) smA_nil)))) (by simp)) smA_nil)))
    (smA_cons (SmJ.up (i := 4) (j := 5) (smJ_tup (j := 3) (smA_cons (SmJ.up (i := 0) (j := 3) h.smk (by decide)) (smA_cons (SmJ.up (i := 0) (j := 3) h.smn (by decide)) (smA_cons (SmJ.up (i := 1) (j := 3) h.sms (by decide)) (smA_cons (smJ_tup (j := 2) (smA_cons h.sm0 (smA_cons (smJ_tup (j := 1) (smA_cons (SmJ.up (i := 0) (j := 1) (SmJ.of (sm_int (by decide) (by decide))) (by decide)) (smA_cons (smJ_rep (SmJ.of (sm_int (by decide) (by decide))) h.lk) (smA_cons (smJ_rep (SmJ.of (sm_int (by decide) (by decide))) h.ln) smA_nil))) (by simp)) smA_nil)) (by simp)) smA_nil)))) (by simp)) (by decide)) smA_nil))
/-! ### none of them is a grammar -/
def No (ds : List PyData) : Prop := ∀ d ∈ ds, gramD d = false
theorem no_nil : No [] := fun d hd => by cases hd
theorem no_cons {d : PyData} {ds : List PyData} (h : gramD d = false) (hs : No ds) : No (d :: ds) := fun x hx => by
  rcases List.mem_cons.mp hx with e | hx
  · rw [e]; exact h
  · exact hs x hx
theorem no_app {ds es : List PyData} (h : No ds) (hs : No es) : No (ds ++ es) := fun x hx => by
  rcases List.mem_append.mp hx with hx | hx
  · exact h x hx
  · exact hs x hx
theorem g_rules {k n : Int} {S : PyData} {rs : List PyData} (h : (rs.all (ruleD k n) && ascD rs) = false) : gramD (.tuple [.int k, .int n, S, .tuple rs]) = false := by
  show (betD (.int k) 1 3 && (decide (1 ≤ n) && (natsD S n && (rs.all (ruleD k n) && ascD rs)))) = false
  rw [h]
  simp
theorem g_start {k n : Int} {S R : PyData} (h : natsD S n = false) : gramD (.tuple [.int k, .int n, S, R]) = false := by
  unfold gramD
  simp only [h, Bool.false_and, Bool.and_false]
theorem g_one {k n : Int} {S d : PyData} (h : ruleD k n d = false) : gramD (.tuple [.int k, .int n, S, .tuple [d]]) = false := g_rules (by rw [List.all_cons, h]; rfl)
theorem asc_same : ∀ k ∈ [1, 2, 3], ∀ n ∈ [1, 2, 3, 4], ascD [R0 k n, R0 k n] = false := by decide +kernel
theorem asc_back : ∀ k ∈ [1, 2, 3], ∀ n ∈ [1, 2, 3, 4], ascD [R0 k n, .tuple [.int 0, .tuple (List.replicate k (.int 0)), .tuple (List.replicate n (.int 0))]] = false := by decide +kernel
section
variable {k n : Nat} {st : List Int} {rs : List Rul}
theorem GrmOk.kIn (h : GrmOk k n st rs) : k ∈ [1, 2, 3] := by
  have h1 := h.k1
  have h2 := h.k3
  have : k = 1 ∨ k = 2 ∨ k = 3 := by omega
  rcases this with e | e | e <;> simp [e]
theorem GrmOk.nIn (h : GrmOk k n st rs) : n ∈ [1, 2, 3, 4] := by
  have h1 := h.n1
  have h2 := h.n4
  have : n = 1 ∨ n = 2 ∨ n = 3 ∨ n = 4 := by omega
  rcases this with e | e | e | e <;> simp [e]
theorem rule_first {k n : Int} {a b c : PyData} (h : betD a 0 (n - 1) = false) : ruleD k n (.tuple [a, b, c]) = false := by
  show (betD a 0 (n - 1) && _) = false
  rw [h]
  rfl
theorem rule_second {k n : Int} {a b c : PyData} (h : natsD b k = false) : ruleD k n (.tuple [a, b, c]) = false := by
  show (betD a 0 (n - 1) && (natsD b k && natsD c n)) = false
  rw [h]
  simp
theorem rule_third {k n : Int} {a b c : PyData} (h : natsD c n = false) : ruleD k n (.tuple [a, b, c]) = false := by
  show (betD a 0 (n - 1) && (natsD b k && natsD c n)) = false
  rw [h]
  simp
theorem nats_len {ds : List PyData} {m : Int} (h : (ds.length : Int) ≠ m) : natsD (.tuple ds) m = false := by
  show (decide ((ds.length : Int) = m) && ds.all natD) = false
  rw [decide_eq_false h]
  rfl
theorem nats_head {d : PyData} {ds : List PyData} {m : Int} (h : natD d = false) : natsD (.tuple (d :: ds)) m = false := by
  show (decide _ && (natD d && ds.all natD)) = false
  rw [h]
  simp
theorem nats_rep {d : PyData} {j : Nat} {m : Int} (h : natD d = false) (hj : 1 ≤ j) : natsD (.tuple (List.replicate j d)) m = false := by
  obtain ⟨i, rfl⟩ : ∃ i, j = i + 1 := ⟨j - 1, by omega⟩
  rw [List.replicate_succ]
  exact nats_head h
theorem badD_no (h : GrmOk k n st rs) : No (badD k n st rs) := by
  unfold badD
  exact (no_app (no_app (no_app (no_app (no_app (no_app (no_app (no_cons rfl (no_cons rfl (no_cons rfl (no_cons rfl (no_cons rfl (no_cons rfl (no_cons rfl (no_cons rfl no_nil))))))))
    (no_cons rfl (no_cons (by simp [gramD]) (no_cons (by simp [gramD]) (no_cons (g_start rfl) (no_cons (g_start (nats_len (by rw [List.length_append, List.length_map, h.sl]; simp; omega))) no_nil))))))
    (no_cons (g_start (nats_head rfl)) (no_cons (g_start (nats_head rfl)) (no_cons (by simp [gramD]) no_nil))))
    (no_cons (g_rules (by rw [asc_same k h.kIn n h.nIn, Bool.and_false])) (no_cons (g_one (rule_first (by show (decide (0 ≤ (n : Int)) && decide ((n : Int) ≤ (n : Int) - 1)) = false; rw [decide_eq_false (show ¬ (n : Int) ≤ (n : Int) - 1 by omega), Bool.and_false]))) (no_cons (g_one (rule_first rfl)) no_nil))))
    (no_cons (g_one rfl) (no_cons (g_one rfl) (no_cons (g_one (rule_second (nats_len (by rw [List.length_replicate]; omega)))) no_nil))))
    (no_cons (g_one (rule_second (nats_rep rfl h.k1))) (no_cons (g_one (rule_third (nats_len (by rw [List.length_replicate]; omega)))) no_nil)))
    (no_cons (g_one (rule_third (nats_rep rfl h.n1))) (no_cons (g_one (rule_first rfl)) no_nil)))
    (no_cons (g_rules (by rw [asc_back k h.kIn n h.nIn, Bool.and_false])) no_nil))
end
/-! ### _law_bad_grammar -/
theorem mk_succ {K : PySem.W.Frag} {B : Hp → Prop} {σ : L2.St} {t : TE} {k : Nat} (hB : Stays B) (h : Mk K B σ t (.int k)) : Mk K B σ (tOp (rI0 fun i j => .int (i + j)) t (tC (.int 1))) (.int ((k + 1 : Nat) : Int)) := by
  have z := mk_add hB h (mk_int 1)
  exact z
theorem GrmOk.ls1 {k n : Nat} {st : List Int} {rs : List Rul} (h : GrmOk k n st rs) {d : PyData} : (st.map PyData.int).length + [d].length ≤ 1000 := by
  have := h.n4
  rw [List.length_map, h.sl]
  show n + 1 ≤ 1000
  omega
theorem GrmOk.lc {k n : Nat} {st : List Int} {rs : List Rul} (h : GrmOk k n st rs) {d : PyData} {lo hi : Option Int} : [d].length + (cutD (st.map PyData.int) lo hi).length ≤ 1000 := by
  have h1 := h.n4
  have h2 := cut_len (st.map PyData.int) lo hi
  rw [List.length_map, h.sl] at h2
  show 1 + _ ≤ 1000
  omega
theorem lc0 {k n : Nat} {d : PyData} {lo hi : Option Int} : [d].length + (cutD (R0L k n) lo hi).length ≤ 1000 := by
  have h2 := cut_len (R0L k n) lo hi
  have h3 : (R0L k n).length = 3 := rfl
  show 1 + _ ≤ 1000
  omega
theorem lc4 {a b c d e : PyData} : [a, b, c, d].length + [e].length ≤ 1000 := by show 4 + 1 ≤ 1000; decide
theorem mk_useT {K : PySem.W.Frag} {B : Hp → Prop} {σ : L2.St} {ts : TA} {ds : List PyData} {H : Hp} {i : Nat} {rest : TS} {D : Ends} (h : MkA K B σ ts ds) (b : B H) (hl : ds.length ≤ 1000) (f : V → L2.St) (hf : ∀ v, σ.set i (some v) = f v) (q : ∀ H' v, Gr H H' → Dp K H' v (.tuple ds) → rest D (f v) H') : tSeq (tAsg (tTup ts) (gName i)) rest D σ H := mk_tup h hl H b (fun v H' => rest D (σ.set i (some v)) H') fun H' v g hv => (hf v).symm ▸ q H' v g hv
theorem mk_useL {K : PySem.W.Frag} {B : Hp → Prop} {σ : L2.St} {ts : TA} {ds : List PyData} {H : Hp} {i : Nat} {rest : TS} {D : Ends} (h : MkA K B σ ts ds) (b : B H) (hl : ds.length ≤ 1000) (f : V → L2.St) (hf : ∀ v, σ.set i (some v) = f v) (q : ∀ H' p, Gr H H' → LstAt K H' p ds → rest D (f (.ref p)) H') : tSeq (tAsg (tLst ts) (gName i)) rest D σ H := mk_bad0 (Q := fun v H' => rest D (σ.set i (some v)) H') h b hl fun H' p g hp => (hf _).symm ▸ q H' p g hp
theorem mk_useB {K : PySem.W.Frag} {B : Hp → Prop} {σ : L2.St} {ts : TA} {ds es : List PyData} {H : Hp} {i j : Nat} {p : Addr} {rest : TS} {D : Ends} (e : σ[j]? = some (some (.ref p))) (hb : LstAt K H p ds) (h : MkA K B σ ts es) (b : B H) (hl : ds.length + es.length ≤ 1000) (f : V → L2.St) (hf : ∀ v, σ.set i (some v) = f v) (q : ∀ H' p, Gr H H' → LstAt K H' p (ds ++ es) → rest D (f (.ref p)) H') :
    tSeq (tAsg (tOp rCat (tVar j) (tLst ts)) (gName i)) rest D σ H := mk_bad (Q := fun v H' => rest D (σ.set i (some v)) H') e hb h b hl fun H' p g hp => (hf _).symm ▸ q H' p g hp
structure Bad0 (K : PySem.W.Frag) (k n : Nat) (st : List Int) (rs : List Rul) (vg vst vrs : V) (H : Hp) : Prop where
  g : Dp K H vg (.tuple [.int k, .int n, .tuple (st.map .int), .tuple (rs.map rulD)])
  st : Dp K H vst (.tuple (st.map .int))
  rs : Dp K H vrs (.tuple (rs.map rulD))
structure Bad1 (K : PySem.W.Frag) (k n : Nat) (st : List Int) (rs : List Rul) (vg vst vrs vr : V) (H : Hp) : Prop extends Bad0 K k n st rs vg vst vrs H where
  r : Dp K H vr (R0 k n)
theorem stays0 {K : PySem.W.Frag} {k n : Nat} {st : List Int} {rs : List Rul} {vg vst vrs : V} : Stays (Bad0 K k n st rs vg vst vrs) := fun H H' g b => ⟨g.dp b.g, g.dp b.st, g.dp b.rs⟩
theorem stays1 {K : PySem.W.Frag} {k n : Nat} {st : List Int} {rs : List Rul} {vg vst vrs vr : V} : Stays (Bad1 K k n st rs vg vst vrs vr) := fun H H' g b => ⟨stays0 H H' g b.toBad0, g.dp b.r⟩
section
variable {P : Program} {w : World} {K : PySem.W.Frag} {mg : Str → Option Value} {base : Heap}
theorem Wd.nList (W : Wd K mg base) : mg "list" = none := W.free 49
def spBad2 (K : PySem.W.Frag) : Sp := fun vs H Q _ => ∃ (s cl : Addr) (ns : List Int) (g : Addr) (k n : Nat) (st : List Int) (rs : List Rul), vs = [.ref s, .ref g] ∧ Src H s cl ns ∧ GrmOk k n st rs ∧ Dp K H (.ref g) (grmD k n st rs) ∧
  ∀ H' v d, GrX [s] H H' → Src H' s cl ns → gramD d = false → SmJ 5 d → Dp K H' v d → Q v H'
theorem sc_bad2 : FnScope ["source", "grammar", "k", "n", "start", "rules", "rule", "bad"] ["source", "grammar"] (defScope s_law_bad_grammar) := ⟨rfl, rfl, rfl, by decide +kernel, rfl, by decide +kernel, by decide +kernel⟩
theorem ok_bad2 (W : Wd K mg base) : FnP P w K mg base CX0 3 ("_law_bad_grammar", none) ["source", "grammar"] (spBad2 K) := by
  refine fnP_of (W.fn 28 _ rfl) sc_bad2 (fun _ _ _ _ _ _ us hl => match us, hl with | [_, _], _ => rfl) (fun vs H Q E h => ?_) (fun A outer s H vs Q E hr h => ?_)
  · obtain ⟨c, cl, ns, g, k, n, st, rs, rfl, _⟩ := h
    rfl
  · obtain ⟨c, cl, ns, g, k, n, st, rs, rfl, hS, h, hg, q⟩ := h
    obtain ⟨p, xs, e, hs, ha⟩ := lenT hg
    cases e
    obtain ⟨x1, x2, x3, x4, rfl, d1, d2, d3, d4⟩ := dpAll4 ha
    cases d1
    cases d2
    refine ⟨_, PSs.nox (pss_cons (ps_asg (pv 1) (pg_tup (n := 4) rfl (pgs_cons (pg_name (i := 2) sc_bad2.nd rfl (.inl rfl)) (pgs_cons (pg_name (i := 3) sc_bad2.nd rfl (.inl rfl)) (pgs_cons (pg_name (i := 4) sc_bad2.nd rfl (.inl rfl)) (pgs_cons (pg_name (i := 5) sc_bad2.nd rfl (.inl rfl)) pgs_nil)))))) (pss_cons (ps_set (i := 6) sc_bad2.nd rfl (.inl rfl) (pe_tup (pa_cons pe_int (pa_cons (pe_op op_mulD (pe_tup (pa_cons pe_int pa_nil)) (pv 2)) (pa_cons (pe_op op_mulD (pe_tup (pa_cons pe_int pa_nil)) (pv 3)) pa_nil))))) (pss_cons (ps_set (i := 7) sc_bad2.nd rfl (.inl rfl) (pe_lst (pa_cons pe_non (pa_cons pe_int (pa_cons pe_str (pa_cons (pe_callTy call_listD (by rfl) W.nList (by decide +kernel) (pa_cons (pv 1) pa_nil)) (pa_cons (pe_slice sl_D (pv 1) po_none (po_some pe_int)) (pa_cons (pe_op op_catD (pv 1) (pe_tup (pa_cons (pe_tup pa_nil) pa_nil))) (pa_cons (pe_tup (pa_cons pe_int (pa_cons (pv 3) (pa_cons (pv 4) (pa_cons (pe_tup pa_nil) pa_nil))))) (pa_cons (pe_tup (pa_cons pe_int (pa_cons (pv 3) (pa_cons (pv 4) (pa_cons (pe_tup pa_nil) pa_nil))))) pa_nil)))))))))) (pss_cons (ps_set (i := 7) sc_bad2.nd rfl (.inl rfl) (pe_op op_cat (pv 7) (pe_lst (pa_cons (pe_tup (pa_cons pe_bl (pa_cons (pv 3) (pa_cons (pv 4) (pa_cons (pe_tup pa_nil) pa_nil))))) (pa_cons (pe_tup (pa_cons (pv 2) (pa_cons pe_int (pa_cons (pe_tup pa_nil) (pa_cons (pe_tup pa_nil) pa_nil))))) (pa_cons (pe_tup (pa_cons (pv 2) (pa_cons pe_bl (pa_cons (pe_tup (pa_cons pe_int pa_nil)) (pa_cons (pe_tup pa_nil) pa_nil))))) (pa_cons (pe_tup (pa_cons (pv 2) (pa_cons (pv 3) (pa_cons (pe_callTy call_listD (by rfl) W.nList (by decide +kernel) (pa_cons (pv 4) pa_nil)) (pa_cons (pv 5) pa_nil))))) (pa_cons (pe_tup (pa_cons (pv 2) (pa_cons (pv 3) (pa_cons (pe_op op_catD (pv 4) (pe_tup (pa_cons pe_int pa_nil))) (pa_cons (pe_tup pa_nil) pa_nil))))) pa_nil)))))))) (pss_cons (ps_set (i := 7) sc_bad2.nd rfl (.inl rfl) (pe_op op_cat (pv 7) (pe_lst (pa_cons (pe_tup (pa_cons (pv 2) (pa_cons (pv 3) (pa_cons (pe_op op_catD (pe_tup (pa_cons (pe_un un_neg pe_int) pa_nil)) (pe_slice sl_D (pv 4) (po_some pe_int) po_none)) (pa_cons (pe_tup pa_nil) pa_nil))))) (pa_cons (pe_tup (pa_cons (pv 2) (pa_cons (pv 3) (pa_cons (pe_op op_catD (pe_tup (pa_cons pe_bl pa_nil)) (pe_slice sl_D (pv 4) (po_some pe_int) po_none)) (pa_cons (pv 5) pa_nil))))) (pa_cons (pe_tup (pa_cons (pv 2) (pa_cons (pv 3) (pa_cons (pv 4) (pa_cons (pe_callTy call_listD (by rfl) W.nList (by decide +kernel) (pa_cons (pv 5) pa_nil)) pa_nil))))) pa_nil)))))) (pss_cons (ps_set (i := 7) sc_bad2.nd rfl (.inl rfl) (pe_op op_cat (pv 7) (pe_lst (pa_cons (pe_tup (pa_cons (pv 2) (pa_cons (pv 3) (pa_cons (pv 4) (pa_cons (pe_tup (pa_cons (pv 6) (pa_cons (pv 6) pa_nil))) pa_nil))))) (pa_cons (pe_tup (pa_cons (pv 2) (pa_cons (pv 3) (pa_cons (pv 4) (pa_cons (pe_tup (pa_cons (pe_op op_catD (pe_tup (pa_cons (pv 3) pa_nil)) (pe_slice sl_D (pv 6) (po_some pe_int) po_none)) pa_nil)) pa_nil))))) (pa_cons (pe_tup (pa_cons (pv 2) (pa_cons (pv 3) (pa_cons (pv 4) (pa_cons (pe_tup (pa_cons (pe_op op_catD (pe_tup (pa_cons (pe_un un_neg pe_int) pa_nil)) (pe_slice sl_D (pv 6) (po_some pe_int) po_none)) pa_nil)) pa_nil))))) pa_nil)))))) (pss_cons (ps_set (i := 7) sc_bad2.nd rfl (.inl rfl) (pe_op op_cat (pv 7) (pe_lst (pa_cons (pe_tup (pa_cons (pv 2) (pa_cons (pv 3) (pa_cons (pv 4) (pa_cons (pe_tup (pa_cons (pe_callTy call_listD (by rfl) W.nList (by decide +kernel) (pa_cons (pv 6) pa_nil)) pa_nil)) pa_nil))))) (pa_cons (pe_tup (pa_cons (pv 2) (pa_cons (pv 3) (pa_cons (pv 4) (pa_cons (pe_tup (pa_cons (pe_slice sl_D (pv 6) po_none (po_some pe_int)) pa_nil)) pa_nil))))) (pa_cons (pe_tup (pa_cons (pv 2) (pa_cons (pv 3) (pa_cons (pv 4) (pa_cons (pe_tup (pa_cons (pe_tup (pa_cons pe_int (pa_cons (pe_op op_mulD (pe_tup (pa_cons pe_int pa_nil)) (pe_op op_add (pv 2) pe_int)) (pa_cons (pe_op op_mulD (pe_tup (pa_cons pe_int pa_nil)) (pv 3)) pa_nil)))) pa_nil)) pa_nil))))) pa_nil)))))) (pss_cons (ps_set (i := 7) sc_bad2.nd rfl (.inl rfl) (pe_op op_cat (pv 7) (pe_lst (pa_cons (pe_tup (pa_cons (pv 2) (pa_cons (pv 3) (pa_cons (pv 4) (pa_cons (pe_tup (pa_cons (pe_tup (pa_cons pe_int (pa_cons (pe_op op_mulD (pe_tup (pa_cons (pe_un un_neg pe_int) pa_nil)) (pv 2)) (pa_cons (pe_op op_mulD (pe_tup (pa_cons pe_int pa_nil)) (pv 3)) pa_nil)))) pa_nil)) pa_nil))))) (pa_cons (pe_tup (pa_cons (pv 2) (pa_cons (pv 3) (pa_cons (pv 4) (pa_cons (pe_tup (pa_cons (pe_tup (pa_cons pe_int (pa_cons (pe_op op_mulD (pe_tup (pa_cons pe_int pa_nil)) (pv 2)) (pa_cons (pe_op op_mulD (pe_tup (pa_cons pe_int pa_nil)) (pe_op op_add (pv 3) pe_int)) pa_nil)))) pa_nil)) pa_nil))))) pa_nil))))) (pss_cons (ps_set (i := 7) sc_bad2.nd rfl (.inl rfl) (pe_op op_cat (pv 7) (pe_lst (pa_cons (pe_tup (pa_cons (pv 2) (pa_cons (pv 3) (pa_cons (pv 4) (pa_cons (pe_tup (pa_cons (pe_tup (pa_cons pe_int (pa_cons (pe_op op_mulD (pe_tup (pa_cons pe_int pa_nil)) (pv 2)) (pa_cons (pe_op op_mulD (pe_tup (pa_cons pe_bl pa_nil)) (pv 3)) pa_nil)))) pa_nil)) pa_nil))))) (pa_cons (pe_tup (pa_cons (pv 2) (pa_cons (pv 3) (pa_cons (pv 4) (pa_cons (pe_tup (pa_cons (pe_op op_catD (pe_tup (pa_cons pe_bl pa_nil)) (pe_slice sl_D (pv 6) (po_some pe_int) po_none)) pa_nil)) pa_nil))))) pa_nil))))) (pss_cons (ps_set (i := 7) sc_bad2.nd rfl (.inl rfl) (pe_op op_cat (pv 7) (pe_lst (pa_cons (pe_tup (pa_cons (pv 2) (pa_cons (pv 3) (pa_cons (pv 4) (pa_cons (pe_tup (pa_cons (pv 6) (pa_cons (pe_tup (pa_cons pe_int (pa_cons (pe_op op_mulD (pe_tup (pa_cons pe_int pa_nil)) (pv 2)) (pa_cons (pe_op op_mulD (pe_tup (pa_cons pe_int pa_nil)) (pv 3)) pa_nil)))) pa_nil))) pa_nil))))) pa_nil)))) (pss_one (ps_ret (pe_ix ix_list (pv 7) (pe_callP (ok_draw W) hr (W.glo 11) pass0 (pa_cons (pv 0) (pa_cons (pe_callB call_len (by rfl) W.nLen (by decide +kernel) (pa_cons (pv 7) pa_nil)) pa_nil))) (fun _ _ => rfl)))))))))))))), ?_⟩
    have b0 : Bad0 K k n st rs (.ref g) x3 x4 H := ⟨hg, d3, d4⟩
    refine ⟨.ref g, rfl, g, _, rfl, hs, rfl, .int k, _, rfl, .int n, _, rfl, x3, _, rfl, x4, _, rfl, rfl, ?_⟩
    have hB : Stays (Bad0 K k n st rs (.ref g) x3 x4) := stays0
    dsimp only
    refine mk_useT (K := K) (B := Bad0 K k n st rs (.ref g) x3 x4) (ds := R0L k n) ?hh b0 (by show 3 ≤ 1000; decide) (fun v => [some (.ref c), some (.ref g), some (.int k), some (.int n), some x3, some x4, some v, none]) (fun _ => rfl) fun H1 vr g1 hr1 => ?_
    case hh => exact (mkA_cons hB (mk_int 0) (mkA_cons hB (mk_mul1 hB (mk_tup (mkA_cons hB (mk_int 1) mkA_nil)) (mk_var rfl fun _ _ => .int _) h.k1' h.kt) (mkA_cons hB (mk_mul1 hB (mk_tup (mkA_cons hB (mk_int 0) mkA_nil)) (mk_var rfl fun _ _ => .int _) h.n1' h.nt) mkA_nil)))
    have b : Bad1 K k n st rs (.ref g) x3 x4 vr H1 := ⟨stays0 _ _ g1 b0, hr1⟩
    have gA := g1
    clear b0 hB
    have hB : Stays (Bad1 K k n st rs (.ref g) x3 x4 vr) := stays1
    refine mk_useL (K := K) (B := Bad1 K k n st rs (.ref g) x3 x4 vr) (ds := [.none, (.int 7), (.str "grammar"), (.list [.int k, .int n, .tuple (st.map .int), .tuple (rs.map rulD)]), (.tuple (cutD [.int k, .int n, .tuple (st.map .int), .tuple (rs.map rulD)] none (some 3))), (.tuple ([.int k, .int n, .tuple (st.map .int), .tuple (rs.map rulD)] ++ [(.tuple [])])), (.tuple [(.int 0), (.int n), (.tuple (st.map .int)), (.tuple [])]), (.tuple [(.int 4), (.int n), (.tuple (st.map .int)), (.tuple [])])]) ?hh b (by simp) (fun v => [some (.ref c), some (.ref g), some (.int k), some (.int n), some x3, some x4, some vr, some v]) (fun _ => rfl) fun H2 p0 g2 hb2 => ?_
    case hh => exact (mkA_cons hB mk_non (mkA_cons hB (mk_int 7) (mkA_cons hB (mk_str "grammar") (mkA_cons hB (mk_listOf hB (mk_var rfl fun _ b => b.g)) (mkA_cons hB (mk_to (mk_var rfl fun _ b => b.g)) (mkA_cons hB (mk_cat hB (mk_var rfl fun _ b => b.g) (mk_tup (mkA_cons hB (mk_tup mkA_nil) mkA_nil)) lc4) (mkA_cons hB (mk_tup (mkA_cons hB (mk_int 0) (mkA_cons hB (mk_var rfl fun _ _ => .int _) (mkA_cons hB (mk_var rfl fun _ b => b.st) (mkA_cons hB (mk_tup mkA_nil) mkA_nil))))) (mkA_cons hB (mk_tup (mkA_cons hB (mk_int 4) (mkA_cons hB (mk_var rfl fun _ _ => .int _) (mkA_cons hB (mk_var rfl fun _ b => b.st) (mkA_cons hB (mk_tup mkA_nil) mkA_nil))))) mkA_nil))))))))
    replace b := hB _ _ g2 b
    replace gA := gA.trans g2
    have hb := hb2
    clear hb2
    refine mk_useB (K := K) (B := Bad1 K k n st rs (.ref g) x3 x4 vr) (es := [(.tuple [(.bool true), (.int n), (.tuple (st.map .int)), (.tuple [])]), (.tuple [(.int k), (.int 0), (.tuple []), (.tuple [])]), (.tuple [(.int k), (.bool true), (.tuple [(.int 1)]), (.tuple [])]), (.tuple [(.int k), (.int n), (.list (st.map .int)), (.tuple (rs.map rulD))]), (.tuple [(.int k), (.int n), (.tuple ((st.map .int) ++ [(.int 0)])), (.tuple [])])]) rfl hb ?hh b (by simp) (fun v => [some (.ref c), some (.ref g), some (.int k), some (.int n), some x3, some x4, some vr, some v]) (fun _ => rfl) fun H3 p1 g3 hb3 => ?_
    case hh => exact (mkA_cons hB (mk_tup (mkA_cons hB (mk_bl true) (mkA_cons hB (mk_var rfl fun _ _ => .int _) (mkA_cons hB (mk_var rfl fun _ b => b.st) (mkA_cons hB (mk_tup mkA_nil) mkA_nil))))) (mkA_cons hB (mk_tup (mkA_cons hB (mk_var rfl fun _ _ => .int _) (mkA_cons hB (mk_int 0) (mkA_cons hB (mk_tup mkA_nil) (mkA_cons hB (mk_tup mkA_nil) mkA_nil))))) (mkA_cons hB (mk_tup (mkA_cons hB (mk_var rfl fun _ _ => .int _) (mkA_cons hB (mk_bl true) (mkA_cons hB (mk_tup (mkA_cons hB (mk_int 1) mkA_nil)) (mkA_cons hB (mk_tup mkA_nil) mkA_nil))))) (mkA_cons hB (mk_tup (mkA_cons hB (mk_var rfl fun _ _ => .int _) (mkA_cons hB (mk_var rfl fun _ _ => .int _) (mkA_cons hB (mk_listOf hB (mk_var rfl fun _ b => b.st)) (mkA_cons hB (mk_var rfl fun _ b => b.rs) mkA_nil))))) (mkA_cons hB (mk_tup (mkA_cons hB (mk_var rfl fun _ _ => .int _) (mkA_cons hB (mk_var rfl fun _ _ => .int _) (mkA_cons hB (mk_cat hB (mk_var rfl fun _ b => b.st) (mk_tup (mkA_cons hB (mk_int 0) mkA_nil)) h.ls1) (mkA_cons hB (mk_tup mkA_nil) mkA_nil))))) mkA_nil)))))
    replace b := hB _ _ g3 b
    replace gA := gA.trans g3
    clear hb
    have hb := hb3
    clear hb3
    refine mk_useB (K := K) (B := Bad1 K k n st rs (.ref g) x3 x4 vr) (es := [(.tuple [(.int k), (.int n), (.tuple ([(.int (-1))] ++ (cutD (st.map .int) (some 1) none))), (.tuple [])]), (.tuple [(.int k), (.int n), (.tuple ([(.bool true)] ++ (cutD (st.map .int) (some 1) none))), (.tuple (rs.map rulD))]), (.tuple [(.int k), (.int n), (.tuple (st.map .int)), (.list (rs.map rulD))])]) rfl hb ?hh b (by simp) (fun v => [some (.ref c), some (.ref g), some (.int k), some (.int n), some x3, some x4, some vr, some v]) (fun _ => rfl) fun H4 p2 g4 hb4 => ?_
    case hh => exact (mkA_cons hB (mk_tup (mkA_cons hB (mk_var rfl fun _ _ => .int _) (mkA_cons hB (mk_var rfl fun _ _ => .int _) (mkA_cons hB (mk_cat hB (mk_tup (mkA_cons hB (mk_neg (mk_int 1)) mkA_nil)) (mk_from (mk_var rfl fun _ b => b.st)) h.lc) (mkA_cons hB (mk_tup mkA_nil) mkA_nil))))) (mkA_cons hB (mk_tup (mkA_cons hB (mk_var rfl fun _ _ => .int _) (mkA_cons hB (mk_var rfl fun _ _ => .int _) (mkA_cons hB (mk_cat hB (mk_tup (mkA_cons hB (mk_bl true) mkA_nil)) (mk_from (mk_var rfl fun _ b => b.st)) h.lc) (mkA_cons hB (mk_var rfl fun _ b => b.rs) mkA_nil))))) (mkA_cons hB (mk_tup (mkA_cons hB (mk_var rfl fun _ _ => .int _) (mkA_cons hB (mk_var rfl fun _ _ => .int _) (mkA_cons hB (mk_var rfl fun _ b => b.st) (mkA_cons hB (mk_listOf hB (mk_var rfl fun _ b => b.rs)) mkA_nil))))) mkA_nil)))
    replace b := hB _ _ g4 b
    replace gA := gA.trans g4
    clear hb
    have hb := hb4
    clear hb4
    refine mk_useB (K := K) (B := Bad1 K k n st rs (.ref g) x3 x4 vr) (es := [(.tuple [(.int k), (.int n), (.tuple (st.map .int)), (.tuple [(R0 k n), (R0 k n)])]), (.tuple [(.int k), (.int n), (.tuple (st.map .int)), (.tuple [(.tuple ([(.int n)] ++ (cutD (R0L k n) (some 1) none)))])]), (.tuple [(.int k), (.int n), (.tuple (st.map .int)), (.tuple [(.tuple ([(.int (-1))] ++ (cutD (R0L k n) (some 1) none)))])])]) rfl hb ?hh b (by simp) (fun v => [some (.ref c), some (.ref g), some (.int k), some (.int n), some x3, some x4, some vr, some v]) (fun _ => rfl) fun H5 p3 g5 hb5 => ?_
    case hh => exact (mkA_cons hB (mk_tup (mkA_cons hB (mk_var rfl fun _ _ => .int _) (mkA_cons hB (mk_var rfl fun _ _ => .int _) (mkA_cons hB (mk_var rfl fun _ b => b.st) (mkA_cons hB (mk_tup (mkA_cons hB (mk_var rfl fun _ b => b.r) (mkA_cons hB (mk_var rfl fun _ b => b.r) mkA_nil))) mkA_nil))))) (mkA_cons hB (mk_tup (mkA_cons hB (mk_var rfl fun _ _ => .int _) (mkA_cons hB (mk_var rfl fun _ _ => .int _) (mkA_cons hB (mk_var rfl fun _ b => b.st) (mkA_cons hB (mk_tup (mkA_cons hB (mk_cat hB (mk_tup (mkA_cons hB (mk_var rfl fun _ _ => .int _) mkA_nil)) (mk_from (mk_var rfl fun _ b => b.r)) lc0) mkA_nil)) mkA_nil))))) (mkA_cons hB (mk_tup (mkA_cons hB (mk_var rfl fun _ _ => .int _) (mkA_cons hB (mk_var rfl fun _ _ => .int _) (mkA_cons hB (mk_var rfl fun _ b => b.st) (mkA_cons hB (mk_tup (mkA_cons hB (mk_cat hB (mk_tup (mkA_cons hB (mk_neg (mk_int 1)) mkA_nil)) (mk_from (mk_var rfl fun _ b => b.r)) lc0) mkA_nil)) mkA_nil))))) mkA_nil)))
    replace b := hB _ _ g5 b
    replace gA := gA.trans g5
    clear hb
    have hb := hb5
    clear hb5
    refine mk_useB (K := K) (B := Bad1 K k n st rs (.ref g) x3 x4 vr) (es := [(.tuple [(.int k), (.int n), (.tuple (st.map .int)), (.tuple [(.list (R0L k n))])]), (.tuple [(.int k), (.int n), (.tuple (st.map .int)), (.tuple [(.tuple (cutD (R0L k n) none (some 2)))])]), (.tuple [(.int k), (.int n), (.tuple (st.map .int)), (.tuple [(.tuple [(.int 0), (.tuple (List.replicate (k + 1) (.int 1))), (.tuple (List.replicate n (.int 0)))])])])]) rfl hb ?hh b (by simp) (fun v => [some (.ref c), some (.ref g), some (.int k), some (.int n), some x3, some x4, some vr, some v]) (fun _ => rfl) fun H6 p4 g6 hb6 => ?_
    case hh => exact (mkA_cons hB (mk_tup (mkA_cons hB (mk_var rfl fun _ _ => .int _) (mkA_cons hB (mk_var rfl fun _ _ => .int _) (mkA_cons hB (mk_var rfl fun _ b => b.st) (mkA_cons hB (mk_tup (mkA_cons hB (mk_listOf hB (mk_var rfl fun _ b => b.r)) mkA_nil)) mkA_nil))))) (mkA_cons hB (mk_tup (mkA_cons hB (mk_var rfl fun _ _ => .int _) (mkA_cons hB (mk_var rfl fun _ _ => .int _) (mkA_cons hB (mk_var rfl fun _ b => b.st) (mkA_cons hB (mk_tup (mkA_cons hB (mk_to (mk_var rfl fun _ b => b.r)) mkA_nil)) mkA_nil))))) (mkA_cons hB (mk_tup (mkA_cons hB (mk_var rfl fun _ _ => .int _) (mkA_cons hB (mk_var rfl fun _ _ => .int _) (mkA_cons hB (mk_var rfl fun _ b => b.st) (mkA_cons hB (mk_tup (mkA_cons hB (mk_tup (mkA_cons hB (mk_int 0) (mkA_cons hB (mk_mul1 hB (mk_tup (mkA_cons hB (mk_int 1) mkA_nil)) (mk_succ hB (mk_var rfl fun _ _ => .int _)) (Nat.succ_pos _) h.kt1) (mkA_cons hB (mk_mul1 hB (mk_tup (mkA_cons hB (mk_int 0) mkA_nil)) (mk_var rfl fun _ _ => .int _) h.n1' h.nt) mkA_nil)))) mkA_nil)) mkA_nil))))) mkA_nil)))
    replace b := hB _ _ g6 b
    replace gA := gA.trans g6
    clear hb
    have hb := hb6
    clear hb6
    refine mk_useB (K := K) (B := Bad1 K k n st rs (.ref g) x3 x4 vr) (es := [(.tuple [(.int k), (.int n), (.tuple (st.map .int)), (.tuple [(.tuple [(.int 0), (.tuple (List.replicate k (.int (-1)))), (.tuple (List.replicate n (.int 0)))])])]), (.tuple [(.int k), (.int n), (.tuple (st.map .int)), (.tuple [(.tuple [(.int 0), (.tuple (List.replicate k (.int 1))), (.tuple (List.replicate (n + 1) (.int 0)))])])])]) rfl hb ?hh b (by simp) (fun v => [some (.ref c), some (.ref g), some (.int k), some (.int n), some x3, some x4, some vr, some v]) (fun _ => rfl) fun H7 p5 g7 hb7 => ?_
    case hh => exact (mkA_cons hB (mk_tup (mkA_cons hB (mk_var rfl fun _ _ => .int _) (mkA_cons hB (mk_var rfl fun _ _ => .int _) (mkA_cons hB (mk_var rfl fun _ b => b.st) (mkA_cons hB (mk_tup (mkA_cons hB (mk_tup (mkA_cons hB (mk_int 0) (mkA_cons hB (mk_mul1 hB (mk_tup (mkA_cons hB (mk_neg (mk_int 1)) mkA_nil)) (mk_var rfl fun _ _ => .int _) h.k1' h.kt) (mkA_cons hB (mk_mul1 hB (mk_tup (mkA_cons hB (mk_int 0) mkA_nil)) (mk_var rfl fun _ _ => .int _) h.n1' h.nt) mkA_nil)))) mkA_nil)) mkA_nil))))) (mkA_cons hB (mk_tup (mkA_cons hB (mk_var rfl fun _ _ => .int _) (mkA_cons hB (mk_var rfl fun _ _ => .int _) (mkA_cons hB (mk_var rfl fun _ b => b.st) (mkA_cons hB (mk_tup (mkA_cons hB (mk_tup (mkA_cons hB (mk_int 0) (mkA_cons hB (mk_mul1 hB (mk_tup (mkA_cons hB (mk_int 1) mkA_nil)) (mk_var rfl fun _ _ => .int _) h.k1' h.kt) (mkA_cons hB (mk_mul1 hB (mk_tup (mkA_cons hB (mk_int 0) mkA_nil)) (mk_succ hB (mk_var rfl fun _ _ => .int _)) (Nat.succ_pos _) h.nt1) mkA_nil)))) mkA_nil)) mkA_nil))))) mkA_nil))
    replace b := hB _ _ g7 b
    replace gA := gA.trans g7
    clear hb
    have hb := hb7
    clear hb7
    refine mk_useB (K := K) (B := Bad1 K k n st rs (.ref g) x3 x4 vr) (es := [(.tuple [(.int k), (.int n), (.tuple (st.map .int)), (.tuple [(.tuple [(.int 0), (.tuple (List.replicate k (.int 1))), (.tuple (List.replicate n (.bool true)))])])]), (.tuple [(.int k), (.int n), (.tuple (st.map .int)), (.tuple [(.tuple ([(.bool false)] ++ (cutD (R0L k n) (some 1) none)))])])]) rfl hb ?hh b (by simp) (fun v => [some (.ref c), some (.ref g), some (.int k), some (.int n), some x3, some x4, some vr, some v]) (fun _ => rfl) fun H8 p6 g8 hb8 => ?_
    case hh => exact (mkA_cons hB (mk_tup (mkA_cons hB (mk_var rfl fun _ _ => .int _) (mkA_cons hB (mk_var rfl fun _ _ => .int _) (mkA_cons hB (mk_var rfl fun _ b => b.st) (mkA_cons hB (mk_tup (mkA_cons hB (mk_tup (mkA_cons hB (mk_int 0) (mkA_cons hB (mk_mul1 hB (mk_tup (mkA_cons hB (mk_int 1) mkA_nil)) (mk_var rfl fun _ _ => .int _) h.k1' h.kt) (mkA_cons hB (mk_mul1 hB (mk_tup (mkA_cons hB (mk_bl true) mkA_nil)) (mk_var rfl fun _ _ => .int _) h.n1' h.nt) mkA_nil)))) mkA_nil)) mkA_nil))))) (mkA_cons hB (mk_tup (mkA_cons hB (mk_var rfl fun _ _ => .int _) (mkA_cons hB (mk_var rfl fun _ _ => .int _) (mkA_cons hB (mk_var rfl fun _ b => b.st) (mkA_cons hB (mk_tup (mkA_cons hB (mk_cat hB (mk_tup (mkA_cons hB (mk_bl false) mkA_nil)) (mk_from (mk_var rfl fun _ b => b.r)) lc0) mkA_nil)) mkA_nil))))) mkA_nil))
    replace b := hB _ _ g8 b
    replace gA := gA.trans g8
    clear hb
    have hb := hb8
    clear hb8
    refine mk_useB (K := K) (B := Bad1 K k n st rs (.ref g) x3 x4 vr) (es := [(.tuple [(.int k), (.int n), (.tuple (st.map .int)), (.tuple [(R0 k n), (.tuple [(.int 0), (.tuple (List.replicate k (.int 0))), (.tuple (List.replicate n (.int 0)))])])])]) rfl hb ?hh b (by simp) (fun v => [some (.ref c), some (.ref g), some (.int k), some (.int n), some x3, some x4, some vr, some v]) (fun _ => rfl) fun H9 pL g9 hb9 => ?_
    case hh => exact (mkA_cons hB (mk_tup (mkA_cons hB (mk_var rfl fun _ _ => .int _) (mkA_cons hB (mk_var rfl fun _ _ => .int _) (mkA_cons hB (mk_var rfl fun _ b => b.st) (mkA_cons hB (mk_tup (mkA_cons hB (mk_var rfl fun _ b => b.r) (mkA_cons hB (mk_tup (mkA_cons hB (mk_int 0) (mkA_cons hB (mk_mul1 hB (mk_tup (mkA_cons hB (mk_int 0) mkA_nil)) (mk_var rfl fun _ _ => .int _) h.k1' h.kt) (mkA_cons hB (mk_mul1 hB (mk_tup (mkA_cons hB (mk_int 0) mkA_nil)) (mk_var rfl fun _ _ => .int _) h.n1' h.nt) mkA_nil)))) mkA_nil))) mkA_nil))))) mkA_nil)
    replace b := hB _ _ g9 b
    replace gA := gA.trans g9
    clear hb
    have hb := hb9
    clear hb9
    have hS1 := hS.gr gA
    have all := badD_no h
    have allS := badD_sm h
    obtain ⟨xs, e1, a1⟩ := hb
    have l1 := DpAll.length a1
    have l27 : xs.length = 27 := l1
    refine ⟨.ref pL, rfl, .ref c, rfl, .ref pL, rfl, .ref pL, 27, rfl, .inl ⟨xs, SqL.of e1, l27.symm⟩, c, cl, ns, 27, rfl, by omega, by omega, hS1, fun H' r gx hS2 r0 r1 => ?_⟩
    obtain ⟨j, rfl⟩ : ∃ j : Nat, r = j := ⟨r.toNat, by omega⟩
    have hj : j < xs.length := by omega
    have nc : pL ∉ [c] := fun z => by
      obtain ⟨_, _, _, _, e9, _⟩ := hS1.ex
      rw [List.mem_singleton.mp z, e9] at e1
      cases e1
    obtain ⟨d, hd1, hd2⟩ := DpAll.get (gx.dpAll hS1.noSq a1) (List.getElem?_eq_getElem hj)
    have hd3 := List.mem_of_getElem? hd1
    refine ⟨pL, xs, j, xs[j], rfl, rfl, SqL.of (gx.lst nc e1), atI_nat (List.getElem?_eq_getElem hj), ?_⟩
    exact q H' _ d ((Gr.grx gA [c]).trans gx) hS2 (all d hd3) (allS d hd3) hd2
end
end K74
/-! ## Mc0 -/
set_option Elab.async false
set_option linter.all false
set_option maxRecDepth 100000
set_option maxHeartbeats 4000000
namespace K74
open PySem PySem.Spec PyProof.Rows L2 He Kx Gx GxR
open Ns (rulD rulK NumK)
/-! ### data of numbers and tuples alone -/
def grmK (k n : Nat) (st : List Int) (rs : List Rul) : NestedKey := .tup [.num k, .num n, .tup (st.map .num), .tup (rs.map rulK)]
theorem datas_rules : ∀ rs : List Rul, NestedKey.datas (rs.map rulK) = rs.map rulD
  | [] => rfl
  | r :: rs => by rw [List.map_cons, NestedKey.datas, datas_rules rs, Ns.rulK_data]; rfl
theorem grmK_data (k n : Nat) (st : List Int) (rs : List Rul) : (grmK k n st rs).data = grmD k n st rs := by
  show PyData.tuple (NestedKey.datas [.num k, .num n, .tup (st.map .num), .tup (rs.map rulK)]) = _
  simp only [NestedKey.datas, NestedKey.data, Ns.datas_ints, datas_rules]
  rfl
theorem grmK_num (k n : Nat) (st : List Int) (rs : List Rul) : NumK (grmK k n st rs) := by
  refine .tup _ fun z hz => ?_
  rcases List.mem_cons.mp hz with e | hz
  · rw [e]; exact .num _
  rcases List.mem_cons.mp hz with e | hz
  · rw [e]; exact .num _
  rcases List.mem_cons.mp hz with e | hz
  · rw [e]
    refine .tup _ fun y hy => ?_
    obtain ⟨i, _, rfl⟩ := List.mem_map.mp hy
    exact .num i
  · rw [List.mem_singleton.mp hz]
    refine .tup _ fun y hy => ?_
    obtain ⟨r, _, rfl⟩ := List.mem_map.mp hy
    exact Ns.rulK_num r
section
variable {K : PySem.W.Frag} {H H' : Hp}
mutual
theorem dp_num (g : ∀ a xs, SqT K H a xs → SqT K H' a xs) : ∀ (k : NestedKey) (v : V), NumK k → Dp K H v k.data → Dp K H' v k.data
  | .none, _, n, _ => nomatch n
  | .text _, _, n, _ => nomatch n
  | .num i, _, _, h => by
    have h' : Dp K H _ (.int i) := h
    cases h'
    exact .int _
  | .tup ks, _, n, h => by
    have h' : Dp K H _ (.tuple (NestedKey.datas ks)) := h
    cases h' with
    | tup h1 h2 => exact .tup (g _ _ h1) (dp_nums g ks _ (by cases n with | tup _ h => exact h) h2)
theorem dp_nums (g : ∀ a xs, SqT K H a xs → SqT K H' a xs) : ∀ (ks : List NestedKey) (vs : List V), (∀ k ∈ ks, NumK k) → DpAll K H vs (NestedKey.datas ks) → DpAll K H' vs (NestedKey.datas ks)
  | [], _, _, h => by
    have h' : DpAll K H _ [] := h
    cases h'
    exact .nil
  | k :: ks, _, n, h => by
    have h' : DpAll K H _ (k.data :: NestedKey.datas ks) := h
    cases h' with
    | cons h1 h2 => exact .cons (dp_num g k _ (n k List.mem_cons_self) h1) (dp_nums g ks _ (fun z hz => n z (List.mem_cons_of_mem _ hz)) h2)
end
end
/-! ### a console's state -/
abbrev kv2 (g1 g2 : Addr) : List (Key × V) := [(.inr "one", .ref g1), (.inr "two", .ref g2)]
structure LB (K : PySem.W.Frag) (s cl kd c dx dk dp nm l t ga gb : Addr) (ns : List Int) (k1 k2 : NestedKey) (kvs : List (Key × V)) (ps : List V) (T : List (Addr × List V)) (H : Hp) : Prop where
  src : Src H s cl ns
  hkd : H kd = some (.dK (kv2 ga gb))
  hc : H c = some (.ins (cC K) dx (cF dk dp))
  hdk : H dk = some (.dK kvs)
  hdp : H dp = some (.lst ps)
  tp : ∀ p ∈ T, H p.1 = some (.tup p.2)
  hga : Dp K H (.ref ga) k1.data
  hgb : Dp K H (.ref gb) k2.data
  hnm : Nms H nm l t
  tb : Tbs K H
  e1 : kd ≠ s
  e2 : dk ≠ s
  e3 : kd ≠ dk
  e4 : nm ≠ dp
  e5 : l ≠ dp
  e6 : cl ≠ dp
  m1 : NumK k1
  m2 : NumK k2
section
variable {K : PySem.W.Frag} {s cl kd c dx dk dp nm l t ga gb : Addr} {ns : List Int} {k1 k2 : NestedKey} {kvs kvs' : List (Key × V)} {ps ps' : List V} {T : List (Addr × List V)} {H H' : Hp}
/-- tuples stay where a dict and a list change -/
theorem sqt_chg (g : GrX [dk, dp] H H') (h1 : H dk = some (.dK kvs)) (h2 : H dp = some (.lst ps)) : ∀ a xs, SqT K H a xs → SqT K H' a xs := fun a xs h => h.imp (fun z => g.rd (fun q => by
  rcases List.mem_cons.mp q with e | q
  · rw [e] at z
    rcases z with z | ⟨o, z⟩ <;> (rw [h1] at z; cases z)
  · rw [List.mem_singleton.mp q] at z
    rcases z with z | ⟨o, z⟩ <;> (rw [h2] at z; cases z)) z fun ps q => by cases q) id
theorem LB.draw (b : LB K s cl kd c dx dk dp nm l t ga gb ns k1 k2 kvs ps T H) (g : GrX [s] H H') (hs : Src H' s cl ns) : LB K s cl kd c dx dk dp nm l t ga gb ns k1 k2 kvs ps T H' := by
  obtain ⟨_, _, _, _, es, _⟩ := b.src.ex
  have ne : ∀ {a : Addr} {o : HO}, H a = some o → (∀ kvs, o ≠ .dK kvs) → a ∉ [s] := fun {a o} e n z => by
    rw [List.mem_singleton.mp z, es] at e
    exact n _ (Option.some.inj e).symm
  exact ⟨hs, g.dK (by simp; exact b.e1) b.hkd, g.ins (ne b.hc fun _ q => by cases q) b.hc, g.dK (by simp; exact b.e2) b.hdk, g.lst (ne b.hdp fun _ q => by cases q) b.hdp, fun p hp => g.tup (ne (b.tp p hp) fun _ q => by cases q) (b.tp p hp), g.dp b.src.noSq b.hga, g.dp b.src.noSq b.hgb,
    ⟨g.lst (ne b.hnm.n fun _ q => by cases q) b.hnm.n, g.lst (ne b.hnm.l fun _ q => by cases q) b.hnm.l, g.tup (ne b.hnm.t fun _ q => by cases q) b.hnm.t⟩, b.tb.grx g, b.e1, b.e2, b.e3, b.e4, b.e5, b.e6, b.m1, b.m2⟩
theorem LB.gr (b : LB K s cl kd c dx dk dp nm l t ga gb ns k1 k2 kvs ps T H) (g : Gr H H') : LB K s cl kd c dx dk dp nm l t ga gb ns k1 k2 kvs ps T H' := b.draw (Gr.grx g _) (b.src.gr g)
theorem LB.chg (b : LB K s cl kd c dx dk dp nm l t ga gb ns k1 k2 kvs ps T H) (g : GrX [dk, dp] H H') (h1 : H' dk = some (.dK kvs')) (h2 : H' dp = some (.lst ps')) : LB K s cl kd c dx dk dp nm l t ga gb ns k1 k2 kvs' ps' T H' := by
  have ne : ∀ {a : Addr} {o : HO}, H a = some o → (∀ kvs, o ≠ .dK kvs) → (∀ xs, o ≠ .lst xs) → a ∉ [dk, dp] := fun {a o} e n1 n2 z => by
    rcases List.mem_cons.mp z with z | z
    · rw [z, b.hdk] at e
      exact n1 _ (Option.some.inj e).symm
    · rw [List.mem_singleton.mp z, b.hdp] at e
      exact n2 _ (Option.some.inj e).symm
  have neD : ∀ {a : Addr} {o : HO}, H a = some o → (∀ xs, o ≠ .lst xs) → a ≠ dk → a ∉ [dk, dp] := fun {a o} e n2 nd z => by
    rcases List.mem_cons.mp z with z | z
    · exact nd z
    · rw [List.mem_singleton.mp z, b.hdp] at e
      exact n2 _ (Option.some.inj e).symm
  have neL : ∀ {a : Addr} {o : HO}, H a = some o → (∀ kvs, o ≠ .dK kvs) → a ≠ dp → a ∉ [dk, dp] := fun {a o} e n1 nd z => by
    rcases List.mem_cons.mp z with z | z
    · rw [z, b.hdk] at e
      exact n1 _ (Option.some.inj e).symm
    · exact nd (List.mem_singleton.mp z)
  obtain ⟨a1, a2, a3, a4, es, r⟩ := b.src.ex
  exact ⟨⟨⟨a1, a2, a3, a4, g.dK (neD es (fun _ q => by cases q) (Ne.symm b.e2)) es, r⟩, g.lst (neL b.src.cells (fun _ q => by cases q) b.e6) b.src.cells, b.src.pos, b.src.short, b.src.nn⟩, g.dK (neD b.hkd (fun _ q => by cases q) b.e3) b.hkd, g.ins (ne b.hc (fun _ q => by cases q) fun _ q => by cases q) b.hc, h1, h2, fun p hp => g.tup (ne (b.tp p hp) (fun _ q => by cases q) fun _ q => by cases q) (b.tp p hp),
    dp_num (sqt_chg g b.hdk b.hdp) _ _ b.m1 b.hga, dp_num (sqt_chg g b.hdk b.hdp) _ _ b.m2 b.hgb, ⟨g.lst (neL b.hnm.n (fun _ q => by cases q) b.e4) b.hnm.n, g.lst (neL b.hnm.l (fun _ q => by cases q) b.e5) b.hnm.l, g.tup (ne b.hnm.t (fun _ q => by cases q) fun _ q => by cases q) b.hnm.t⟩, b.tb.grx g, b.e1, b.e2, b.e3, b.e4, b.e5, b.e6, b.m1, b.m2⟩
theorem LB.ndp (b : LB K s cl kd c dx dk dp nm l t ga gb ns k1 k2 kvs ps T H) : dp ≠ dk := fun z => by
  have h := b.hdp
  rw [z, b.hdk] at h
  cases h
/-- the heap behind a change -/
theorem chg3 {H1 : Hp} {r : Addr} {x y z : HO} (b : LB K s cl kd c dx dk dp nm l t ga gb ns k1 k2 kvs ps T H) (g : Gr H H1) (hr : H1 r = none) : GrX [dk, dp] H (upd (upd (upd H1 r x) dp y) dk z) ∧ (upd (upd (upd H1 r x) dp y) dk z) dk = some z ∧ (upd (upd (upd H1 r x) dp y) dk z) dp = some y ∧ (upd (upd (upd H1 r x) dp y) dk z) r = some x := by
  have b1 := b.gr g
  have n1 : dk ≠ r := ne_of_none b1.hdk hr
  have n2 : dp ≠ r := ne_of_none b1.hdp hr
  have n3 := b.ndp
  have g1 : GrX [dk, dp] H (upd H1 r x) := Gr.grx (g.trans (.new hr)) _
  have h2 : (upd H1 r x) dp = some (.lst ps) := by rw [upd_ne n2]; exact b1.hdp
  have g2 : GrX [dk, dp] (upd H1 r x) (upd (upd H1 r x) dp y) := GrX.upd (by simp) h2 fun _ q => by cases q
  have h3 : (upd (upd H1 r x) dp y) dk = some (.dK kvs) := by rw [upd_ne (Ne.symm n3), upd_ne n1]; exact b1.hdk
  have g3 : GrX [dk, dp] (upd (upd H1 r x) dp y) (upd (upd (upd H1 r x) dp y) dk z) := GrX.upd (by simp) h3 fun _ q => by cases q
  exact ⟨(g1.trans g2).trans g3, upd_same, by rw [upd_ne n3]; exact upd_same, by rw [upd_ne (Ne.symm n1), upd_ne (Ne.symm n2)]; exact upd_same⟩
theorem chg2 {y z : HO} (b : LB K s cl kd c dx dk dp nm l t ga gb ns k1 k2 kvs ps T H) : GrX [dk, dp] H (upd (upd H dp y) dk z) ∧ (upd (upd H dp y) dk z) dk = some z ∧ (upd (upd H dp y) dk z) dp = some y := by
  have n3 := b.ndp
  have g2 : GrX [dk, dp] H (upd H dp y) := GrX.upd (by simp) b.hdp fun _ q => by cases q
  have h3 : (upd H dp y) dk = some (.dK kvs) := by rw [upd_ne (Ne.symm n3)]; exact b.hdk
  have g3 : GrX [dk, dp] (upd H dp y) (upd (upd H dp y) dk z) := GrX.upd (by simp) h3 fun _ q => by cases q
  exact ⟨g2.trans g3, upd_same, by rw [upd_ne n3]; exact upd_same⟩
theorem num_none {k : NestedKey} (h : NumK k) : PyData.eqv k.data .none = false ∧ PyData.eqv .none k.data = false := by
  cases h with
  | num i => exact ⟨rfl, rfl⟩
  | tup ks _ => exact ⟨rfl, rfl⟩
theorem num_some {k : NestedKey} {g : V} (h : NumK k) (hg : Dp K H g k.data) : g ≠ .non := fun z => by
  subst z
  cases h with
  | num i =>
    have h' : Dp K H .non (.int i) := hg
    cases h'
  | tup ks _ =>
    have h' : Dp K H .non (.tuple (NestedKey.datas ks)) := hg
    cases h'
theorem keep_read (b : LB K s cl kd c dx dk dp nm l t ga gb ns k1 k2 kvs ps T H) {n : Str} {g : V} {k : NestedKey} {Q : VK} (hn : nameD (.str n) = true) (hl : n.length ≤ sizeLine) (hg : Dp K H g k.data) (hk : NumK k) (ok : gramD k.data = true) (sz : szD k.data) (sh : SeqAt.shaped k.data = true) (l1 : kvs.length < 100) (l2 : ps.length < 100)
    (hv : valV kvs (.inr n) = none) (hp : putK kvs (.inr n) g = kvs ++ [(.inr n, g)])
    (q : ∀ H' r, GrX [dk, dp] H H' → H' dk = some (.dK (kvs ++ [(.inr n, g)])) → H' dp = some (.lst (ps ++ [.ref r])) → H' r = some (.tup [.str n, .non]) → Q .non H') : spKeep K [.ref c, .str n, g] H Q E0 := by
  refine ⟨c, dx, dk, dp, .str n, g, .str n, k.data, kvs, ps, rfl, b.hc, b.hdk, b.hdp, by rw [sizeLine_eq]; omega, by rw [sizeLine_eq]; omega, .str n, hg, fun x e => by cases e; exact hl, sz, b.tb, fun h => ?_, fun _ h => ?_, fun n' e _ _ H1 g1 => ?_⟩
  · rw [hn] at h; cases h
  · rw [ok] at h; cases h
  · cases e
    refine ⟨k.data, .none, g1.dp hg, by rw [hv]; exact .non, sh, rfl, fun e => ?_, fun _ r hr => ?_⟩
    · rw [(num_none hk).1] at e; cases e
    · obtain ⟨a1, a2, a3, a4⟩ := chg3 (x := .tup [.str n, (valV kvs (.inr n)).getD .non]) (y := .lst (ps ++ [.ref r])) (z := .dK (newK kvs n g)) b g1 hr
      have e : newK kvs n g = kvs ++ [(.inr n, g)] := (if_neg (num_some hk hg)).trans hp
      exact q _ r a1 (by rw [a2, e]) a3 (by rw [a4, hv]; rfl)
theorem drop_read (b : LB K s cl kd c dx dk dp nm l t ga gb ns k1 k2 kvs ps T H) {n : Str} {g : V} {k : NestedKey} {Q : VK} (hn : inD kvs (.str n) = true) (hl : n.length ≤ sizeLine) (hg : Dp K H g k.data) (hk : NumK k) (sh : SeqAt.shaped k.data = true) (l1 : kvs.length < 100) (l2 : ps.length < 100) (hv : valV kvs (.inr n) = some g)
    (q : ∀ H' r, GrX [dk, dp] H H' → H' dk = some (.dK (dropK kvs (.inr n))) → H' dp = some (.lst (ps ++ [.ref r])) → H' r = some (.tup [.str n, g]) → Q .non H') : spDrop K [.ref c, .str n] H Q E0 := by
  refine ⟨c, dx, dk, dp, .str n, .str n, kvs, ps, rfl, b.hc, b.hdk, b.hdp, by rw [sizeLine_eq]; omega, by rw [sizeLine_eq]; omega, .str n, fun x e => by cases e; exact hl, b.tb, fun h => ?_, fun n' e _ H1 g1 => ?_⟩
  · rw [hn] at h; cases h
  · cases e
    refine ⟨.none, k.data, .non, by rw [hv]; exact g1.dp hg, rfl, sh, fun e => ?_, fun _ r hr => ?_⟩
    · rw [(num_none hk).2] at e; cases e
    · obtain ⟨a1, a2, a3, a4⟩ := chg3 (x := .tup [.str n, (valV kvs (.inr n)).getD .non]) (y := .lst (ps ++ [.ref r])) (z := .dK (newK kvs n .non)) b g1 hr
      have e : newK kvs n .non = dropK kvs (.inr n) := if_pos rfl
      exact q _ r a1 (by rw [a2, e]) a3 (by rw [a4, hv]; rfl)
theorem undo_read {r : Addr} {n : Str} {g : V} {Q : VK} (b : LB K s cl kd c dx dk dp nm l t ga gb ns k1 k2 kvs (ps ++ [.ref r]) T H) (hr : H r = some (.tup [.str n, g])) (l1 : kvs.length < 100) (q : ∀ H', GrX [dk, dp] H H' → H' dk = some (.dK (newK kvs n g)) → H' dp = some (.lst ps) → Q .non H') : spUndo K [.ref c] H Q E0 := by
  obtain ⟨a1, a2, a3⟩ := chg2 (y := .lst ps) (z := .dK (newK kvs n g)) b
  exact ⟨c, dx, dk, dp, r, n, g, kvs, ps, rfl, b.hc, b.hdk, b.hdp, hr, by rw [sizeLine_eq]; omega, q _ a1 a2 a3⟩
theorem get_read (b : LB K s cl kd c dx dk dp nm l t ga gb ns k1 k2 kvs ps T H) {n : Str} {g : V} {Q : VK} (hn : inD kvs (.str n) = true) (hl : n.length ≤ sizeLine) (hv : valV kvs (.inr n) = some g) (q : ∀ H', Gr H H' → Q g H') : spGet K [.ref c, .str n] H Q E0 := by
  refine ⟨c, dx, dk, dp, .str n, .str n, kvs, rfl, b.hc, b.hdk, .str n, fun x e => by cases e; exact hl, b.tb, fun _ n' g' e hv' H1 g1 => ?_, fun h => ?_⟩
  · cases e
    rw [hv] at hv'
    cases hv'
    exact q H1 g1
  · rw [hn] at h; cases h
theorem has_read (b : LB K s cl kd c dx dk dp nm l t ga gb ns k1 k2 kvs ps T H) {v : V} {d : PyData} {Q : VK} (hv : Dp K H v d) (hs : shortD d) (hn : inD kvs d = false) (q : ∀ H', Gr H H' → Q (.bl false) H') : rInC (cC K) (spHas K) E0 false v (.ref c) H Q := by
  refine ⟨c, dx, cF dk dp, rfl, b.hc, c, dx, dk, dp, v, d, kvs, rfl, b.hc, b.hdk, hv, hs, b.tb, fun H1 g1 => ⟨_, rfl, ?_⟩⟩
  rw [hn]
  exact q H1 g1
theorem perm_two {a b : Str} {ys : List Str} (h : ys.Perm [a, b]) : ys = [a, b] ∨ ys = [b, a] := by
  match ys, h with
  | [], h => exact absurd h.length_eq (by simp)
  | [_], h => exact absurd h.length_eq (by simp)
  | _ :: _ :: _ :: _, h => exact absurd h.length_eq (by simp)
  | [x, y], h =>
    have hx : x = a ∨ x = b := by
      have := h.mem_iff.mp (List.mem_cons_self (a := x) (l := [y]))
      simpa using this
    rcases hx with e | e
    · subst e
      have h2 := (List.perm_cons x).mp h
      rw [List.perm_singleton.mp h2]
      exact .inl rfl
    · subst e
      have h2 : [x, y].Perm [x, a] := h.trans (List.Perm.swap x a [])
      have h3 := (List.perm_cons x).mp h2
      rw [List.perm_singleton.mp h3]
      exact .inr rfl
theorem names_two (b : LB K s cl kd c dx dk dp nm l t ga gb ns k1 k2 (kv2 ga gb) ps T H) {Q : VK} (q : ∀ H' p, Gr H H' → Dp K H' (.ref p) (.list [.str "one", .str "two"]) → Q (.ref p) H') : spNms K [.ref c] H Q E0 := by
  refine ⟨c, dx, dk, dp, kv2 ga gb, ["one", "two"], rfl, b.hc, b.hdk, rfl, by decide, fun ys p pm srt hp => ?_⟩
  have e : ys = (["one", "two"] : List Str) := by
    rcases perm_two pm with e | e
    · exact e
    · rw [e] at srt
      exact absurd srt (by decide)
  subst e
  exact q _ p (.new hp) (.lst (SqL.of upd_same) (.cons (.str _) (.cons (.str _) .nil)))
theorem names_one (b : LB K s cl kd c dx dk dp nm l t ga gb ns k1 k2 [(.inr "one", .ref ga)] ps T H) {Q : VK} (q : ∀ H' p, Gr H H' → Dp K H' (.ref p) (.list [.str "one"]) → Q (.ref p) H') : spNms K [.ref c] H Q E0 := by
  refine ⟨c, dx, dk, dp, [(.inr "one", .ref ga)], ["one"], rfl, b.hc, b.hdk, rfl, by decide, fun ys p pm srt hp => ?_⟩
  have e : ys = (["one"] : List Str) := List.perm_singleton.mp pm
  subst e
  exact q _ p (.new hp) (.lst (SqL.of upd_same) (.cons (.str _) .nil))
end
/-! ### the names that are drawn -/
def showB (d : PyData) : Bool := d.showable && (!d.hasDict && (decide (d.depth < 64) && decide (d.shown.length ≤ sizeLine)))
theorem showB_ok {d : PyData} (h : showB d = true) : ShowD d := by
  unfold showB at h
  simp only [Bool.and_eq_true, decide_eq_true_eq, Bool.not_eq_true'] at h
  exact ⟨h.1, h.2.1, h.2.2.1, h.2.2.2⟩
def shortB (d : PyData) : Bool := match d with
  | .str x => decide (x.length ≤ sizeLine)
  | _ => true
theorem shortB_ok {d : PyData} (h : shortB d = true) : shortD d := by
  intro x e
  subst e
  exact of_decide_eq_true h
theorem nmD_all : (nmD.all fun d => showB d && shortB d) = true := by decide +kernel
theorem nmD_show {d : PyData} (h : d ∈ nmD) : ShowD d ∧ shortD d ∧ nameD d = false := by
  have z := List.all_eq_true.mp nmD_all d h
  rw [Bool.and_eq_true] at z
  have y := List.all_eq_true.mp nmD_bad d h
  rw [Bool.not_eq_true'] at y
  exact ⟨showB_ok z.1, shortB_ok z.2, y⟩
theorem inD_bad {kvs : List (Key × V)} {d : PyData} (h : nameD d = false) : inD kvs d = false := by
  unfold inD
  rw [h]
  rfl
/-- the strange names beside a bad one -/
def stD (d : PyData) : List PyData := [d, .str "on", .str "onee", .str "tw", .str "eno"]
theorem stD_all (d : PyData) (hd : ShowD d ∧ shortD d ∧ nameD d = false) (ga gb : Addr) : ∀ x ∈ stD d, ShowD x ∧ shortD x ∧ inD (kv2 ga gb) x = false := by
  intro x hx
  have key : ∀ y : Str, showB (.str y) = true → shortB (.str y) = true → inD (kv2 ga gb) (.str y) = false → ShowD (.str y) ∧ shortD (.str y) ∧ inD (kv2 ga gb) (.str y) = false := fun y a b c => ⟨showB_ok a, shortB_ok b, c⟩
  rcases List.mem_cons.mp hx with e | hx
  · rw [e]; exact ⟨hd.1, hd.2.1, inD_bad hd.2.2⟩
  rcases List.mem_cons.mp hx with e | hx
  · rw [e]; exact key _ (by decide +kernel) (by decide +kernel) (by kernel_rfl)
  rcases List.mem_cons.mp hx with e | hx
  · rw [e]; exact key _ (by decide +kernel) (by decide +kernel) (by kernel_rfl)
  rcases List.mem_cons.mp hx with e | hx
  · rw [e]; exact key _ (by decide +kernel) (by decide +kernel) (by kernel_rfl)
  · rw [List.mem_singleton.mp hx]; exact key _ (by decide +kernel) (by decide +kernel) (by kernel_rfl)
end K74
/-! ## Mc -/
set_option Elab.async false
set_option linter.all false
set_option maxRecDepth 100000
set_option maxHeartbeats 4000000
namespace K74
open PySem PySem.Spec PyProof.Rows L2 He Kx Gx GxR
open Ns (rulD rulK NumK)
section
variable {X : Cx} {CX : CXT} {C f : Addr} {k : Nat} {fd : FuncData} {ps : List Str} {sp : Sp} {E : XK}
/-- len(o) by o's own __len__ -/
def rLenC (C : Addr) (sp : Sp) (E : XK) : List V → Hp → VK → Prop := fun xs H Q => ∃ c dx fs, xs = [.ref c] ∧ H c = some (.ins C dx fs) ∧ sp [.ref c] H (fun v H' => ∃ n : Nat, v = .int n ∧ n < 2 ^ 62 ∧ Q (.int n) H') E
theorem call_lenC (hm : Meth X.K C "__len__" f) (F : FnOk X.prog X.w X.K X.mg X.base CX k f fd ps sp) (hr : Room (k + 1) X.A) (hb : Binds X.K fd ps []) (hx : Passes CX X E) : CallR X (.builtin "len") (rLenC C sp E) := by
  intro pins s σ H xs us Q I r h
  obtain ⟨c, dx, fs, rfl, hc, h⟩ := h
  rw [Vals.ref1 r]
  obtain ⟨mA, O, _, _, _, _⟩ := ins_get I.hok hc
  obtain ⟨od, J, _⟩ := O.look
  obtain ⟨m, fr⟩ := I.fr
  have hl : ([Value.ref c] ++ []).length = ps.length := F.len [V.ref c] _ _ _ h
  have b := hb s [Value.ref c] I.kIn hl
  rw [List.append_nil] at b
  have e0 : Env0 X.prog X.w X.K X.mg X.base X.A.in1 X.stack s H := by
    have z := I.env0
    exact ⟨z.1, z.2, z.3, z.4, z.5, z.6, z.7, z.8⟩
  refine PySem.W.len_K fr I.ok.mod.kin J hm.at_ hm.fn (wpAny_call (codeAny_mono (F.run X.A.in1 X.stack s H ⟨[.ref c], []⟩ [.ref c] [.ref c] _ E hr.in1 e0 b (.cons rfl .nil) h) fun z s' hq => ?_))
  cases z with
  | error e => exact hx pins σ H s e s' I hq
  | ok fl =>
    cases fl with
    | ret u =>
      obtain ⟨v, H1, I1, rv, n, e, hn, q⟩ := I.after hq
      subst e
      obtain ⟨t, rfl⟩ := rv
      exact ⟨⟨by omega, by omega⟩, .int n, H1, I1.tok _, ⟨_, rfl⟩, q⟩
    | next => exact hq.elim
    | brk => exact hq.elim
    | cont => exact hq.elim
/-- a call that raises nothing there -/
theorem passX0 : Passes (L2.CX X.prog X.w) X E0 := fun _ _ _ _ _ _ _ h => by
  obtain ⟨_, _, _, _, _, _, _, _, _, _, _, _, z⟩ := h
  exact z.elim
end
/-- o.m(), o a console -/
theorem pe_methP0 {X : Cx} {CX : CXT} {m : Str} {ps : List Str} {k : Nat} {sp : Sp} {E : XK} {o : Expr} {ta : TE} {apos pos : Pos} {pl : Sem Bool} (G : FnP X.prog X.w X.K X.mg X.base CX k ("Console", some m) ps sp) (c : Cls X.K (cC X.K)) (hm : Meth X.K (cC X.K) m (ma X.K (cC X.K) m)) (hr : Room k X.A) (hx : Passes CX X E) (ho : PE X o ta)
    (ht : eval (.Call (.Attribute o m apos) [] [] pos) X.env = (do
      let ov ← eval o X.env
      standAt apos.atName
      let (f, first) ← holding [ov] (getMethod ov m pl)
      callWith pos f first (backTo pos (starEach [] X.env)) (backToKw pos (keywordEach [] X.env))) := by rfl) :
    PE X (.Call (.Attribute o m apos) [] [] pos) (tMeth (cC X.K) m sp [] E ta tNil) := by
  obtain ⟨fd, G, b, kp⟩ := G
  exact pe_meth0 (pl := pl) ho c hm G hr b .nil hx ht
theorem upd_free {H : Hp} {a b : Addr} {o : HO} (h : upd H a o b = none) : b ≠ a ∧ H b = none := by
  have n : b ≠ a := fun z => by
    rw [z, upd_same] at h
    cases h
  exact ⟨n, by rwa [upd_ne n] at h⟩
theorem decT {i j : Int} (h : i = j) : decide (V.int i = V.int j) = true := by rw [h]; exact decide_eq_true rfl
theorem decF {i j : Int} (h : i ≠ j) : decide (V.int i = V.int j) = false := decide_eq_false fun z => h (by injection z)
theorem word_ok (y : Str) (h1 : showB (.str y) = true) (h2 : shortB (.str y) = true) (h3 : nameD (.str y) = true) : ShowD (.str y) ∧ shortD (.str y) ∧ nameD (.str y) = true := ⟨showB_ok h1, shortB_ok h2, h3⟩
theorem two_names : ∀ x ∈ ([.str "one", .str "three"] : List PyData), ShowD x ∧ shortD x ∧ nameD x = true := fun x hx => by
  rcases List.mem_cons.mp hx with e | hx
  · rw [e]; exact word_ok _ (by decide +kernel) (by decide +kernel) (by decide +kernel)
  · rw [List.mem_singleton.mp hx]; exact word_ok _ (by decide +kernel) (by decide +kernel) (by decide +kernel)
theorem not_refl : (!decide (V.non = V.non)) = false := by rw [decide_eq_true rfl]; rfl
theorem nil_arg {σ : L2.St} {H : Hp} {sp : Sp} {Q : VK} {E : XK} {v : V} (h : sp [v] H Q E) : tNil σ H (fun vs H2 => sp (v :: (vs ++ [])) H2 Q E) := h
abbrev kv3 (g1 g2 g3 : Addr) : List (Key × V) := kv2 g1 g2 ++ [(.inr "three", .ref g3)]
abbrev kv1 (g1 : Addr) : List (Key × V) := [(.inr "one", .ref g1)]
structure GFac (k : NestedKey) : Prop where
  gr : gramD k.data = true
  sz : szD k.data
  sh : SeqAt.shaped k.data = true
  nu : NumK k
  sw : ShowD k.data
  eq : PyData.eqv k.data k.data = true
theorem shaped_two {k1 k2 : NestedKey} (h1 : GFac k1) (h2 : GFac k2) : SeqAt.shaped (.list [k1.data, k2.data]) = true ∧ PyData.eqv (.list [k1.data, k2.data]) (.list [k1.data, k2.data]) = true := by
  have l : PyData.canLay0 (.list [k1.data, k2.data]) = true := by
    rw [PyData.canLay0, PyData.canLayAll0, PyData.canLayAll0, PyData.canLayAll0, SeqAt.canLay_of_shaped h1.sh, SeqAt.canLay_of_shaped h2.sh]
    rfl
  have d : PyData.depth (.list [k1.data, k2.data]) ≤ 64 := by
    rw [PyData.depth, PyData.depthAll, PyData.depthAll, PyData.depthAll]
    have := h1.sw.dp
    have := h2.sw.dp
    omega
  refine ⟨?_, SeqAt.eqv_refl _ l⟩
  show (PyData.canLay0 _ && decide (PyData.depth _ ≤ 64)) = true
  rw [l, decide_eq_true d]
  rfl
theorem GrmOk.fac {k n : Nat} {st : List Int} {rs : List Rul} (h : GrmOk k n st rs) : GFac (grmK k n st rs) := by
  have sm := h.sm
  have sh : SeqAt.shaped (grmD k n st rs) = true := by
    show ((grmD k n st rs).canLay0 && decide ((grmD k n st rs).depth ≤ 64)) = true
    rw [sm.lay, decide_eq_true (show (grmD k n st rs).depth ≤ 64 by have := sm.dp; omega)]
    rfl
  refine ⟨by rw [grmK_data]; exact h.gram, by rw [grmK_data]; exact h.sz, by rw [grmK_data]; exact sh, grmK_num _ _ _ _, by rw [grmK_data]; exact sm.show (by decide) (by decide), ?_⟩
  rw [grmK_data]
  exact SeqAt.eqv_refl _ sm.lay
section
variable {P : Program} {w : World} {K : PySem.W.Frag} {mg : Str → Option Value} {base : Heap}
theorem Wd.mkC (W : Wd K mg base) : L2.Mk K (cC K) (ma K (cC K) "__init__") := mkr_ok (W.fa 67 _ rfl)
def spLaw (K : PySem.W.Frag) : Sp := fun vs H Q _ => ∃ (a : Addr) (ns : List Int), vs = [.ref a] ∧ SqL K H a (ns.map V.int) ∧ ns.length ≤ 63 ∧ Tbs K H ∧ ∀ H', Q (.bl true) H'
theorem sc_law : FnScope ["script", "source", "kept", "console", "names", "name", "turn", "good", "bad", "odd", "named", "strange", "what"] ["script"] (defScope s_law) := ⟨rfl, rfl, rfl, by decide +kernel, rfl, by decide +kernel, by decide +kernel⟩
theorem ok_law (W : Wd K mg base) : FnGP P w K mg base CX0 19 ("law", none) ["script"] (spLaw K) := by
  obtain ⟨fI, GI, bI, kI⟩ := ok_cinit (P := P) (w := w) W
  obtain ⟨fN, GN, bN, kN⟩ := ok_bad (P := P) (w := w) W
  obtain ⟨fH, GH, bH, kH⟩ := ok_chas (P := P) (w := w) W
  obtain ⟨fL, GL, bL, kL⟩ := ok_clen (P := P) (w := w) W
  refine fnGP_of (W.fn 31 _ rfl) sc_law (fun _ _ _ _ _ _ us hl => match us, hl with | [_], _ => rfl) (fun vs H Q E h => ?_) (fun A outer s H vs Q E hr hG h => ?_)
  · obtain ⟨a, ns, rfl, _⟩ := h
    rfl
  · obtain ⟨a, ns, rfl, hs, hl, ht, q⟩ := h
    refine ⟨_, PSs.nox (pss_cons (ps_set (i := 1) sc_law.nd rfl (.inl rfl) (pe_callP (ok_source W) (hr.mono (by omega)) (W.glo 9) pass0 (pa_cons (pv 0) pa_nil))) (pss_cons (ps_set (i := 2) sc_law.nd rfl (.inl rfl) (pe_disp (pps_cons pe_str (pe_callP (ok_grm W) (hr.mono (by omega)) (W.glo 12) pass0 (pa_cons (pv 1) pa_nil)) (pps_cons pe_str (pe_callP (ok_grm W) (hr.mono (by omega)) (W.glo 12) pass0 (pa_cons (pv 1) pa_nil)) pps_nil)) (by rfl) (by rfl) (fun z => by cases z) (by decide))) (pss_cons (ps_asg (pe_tup (pa_cons (pe_make0 W.mkC GI (hr.mono (by omega)) (by rfl) (W.glo 21) bI .nil pass0) (pa_cons (pe_call0 GN (hr.mono (by omega)) (by rfl) (W.glo 16) kN.1 bN .nil pass0) pa_nil))) (pg_tup (n := 2) rfl (pgs_cons (pg_name (i := 3) sc_law.nd rfl (.inr rfl)) (pgs_cons (pg_name (i := 4) sc_law.nd rfl (.inl rfl)) pgs_nil)))) (pss_cons (ps_for PassesOwn.never rfl (pi_list (pe_lst (pa_cons pe_str (pa_cons pe_str pa_nil)))) (pg_name (i := 5) sc_law.nd rfl (.inl rfl)) (pss_one (ps_expr (pe_methP (ok_ckeep W) W.cls (W.meth 60) (hr.mono (by omega)) passX0 (pv 3) (pa_cons (pv 5) (pa_cons (pe_dget (Room.u1 hr) (pv 2) (pv 5) (fun _ _ => rfl)) pa_nil)))))) (pss_cons (ps_for PassesOwn.never rfl (pi_range1 (by rfl) W.nRange (pa_cons pe_int pa_nil)) (pg_name (i := 6) sc_law.nd rfl (.inl rfl)) (pss_cons (ps_set (i := 7) sc_law.nd rfl (.inl rfl) (pe_callP (ok_grm W) (hr.mono (by omega)) (W.glo 12) pass0 (pa_cons (pv 1) pa_nil))) (pss_cons (ps_par3 (i := 8) (j := 9) (l := 10) rfl sc_law.nd rfl rfl rfl (by decide) (by decide) (by decide) rfl rfl rfl (pa_cons (pe_callP (ok_bad2 W) (hr.mono (by omega)) (W.glo 17) pass0 (pa_cons (pv 1) (pa_cons (pv 7) pa_nil))) (pa_cons (pe_ix ix_list (pv 4) (pe_callP (ok_draw W) (hr.mono (by omega)) (W.glo 11) pass0 (pa_cons (pv 1) (pa_cons pe_int pa_nil))) (fun _ _ => rfl)) (pa_cons (pe_cmpR op_eq (pe_callP (ok_draw W) (hr.mono (by omega)) (W.glo 11) pass0 (pa_cons (pv 1) (pa_cons pe_int pa_nil))) pe_int (nomark _)) pa_nil))) (by rfl)) (pss_cons (ps_set (i := 11) sc_law.nd rfl (.inl rfl) (pe_ix ix_list (pe_lst (pa_cons (pv 9) (pa_cons pe_str (pa_cons pe_str (pa_cons pe_str (pa_cons pe_str pa_nil)))))) (pe_callP (ok_draw W) (hr.mono (by omega)) (W.glo 11) pass0 (pa_cons (pv 1) (pa_cons pe_int pa_nil))) (fun _ _ => rfl))) (pss_cons (ps_set (i := 12) sc_law.nd rfl (.inl rfl) (pe_callP (ok_draw W) (hr.mono (by omega)) (W.glo 11) pass0 (pa_cons (pv 1) (pa_cons pe_int pa_nil)))) (pss_cons (ps_if (pw_and (pt_cmpR op_eq (pv 12) pe_int (nomark _)) (pw_and1 (pt_not (pt_val (pe_callGP (ok_ref W) hr hG (W.glo 19) pass0 (pa_cons (pv 3) (pa_cons pe_str (pa_cons (pv 9) (pa_cons (pe_ix ix_list (pe_lst (pa_cons (pv 7) (pa_cons (pv 8) pa_nil))) (pe_callP (ok_draw W) (hr.mono (by omega)) (W.glo 11) pass0 (pa_cons (pv 1) (pa_cons pe_int pa_nil))) (fun _ _ => rfl)) (pa_cons (pv 10) (pa_cons pe_str pa_nil))))))))))).pt (pss_one (ps_ret pe_bl)) pss_nil) (pss_cons (ps_if (pw_and (pt_cmpR op_eq (pv 12) pe_int (nomark _)) (pw_and1 (pt_not (pt_val (pe_callGP (ok_ref W) hr hG (W.glo 19) pass0 (pa_cons (pv 3) (pa_cons pe_str (pa_cons (pe_ix ix_list (pe_lst (pa_cons pe_str (pa_cons pe_str pa_nil))) (pe_callP (ok_draw W) (hr.mono (by omega)) (W.glo 11) pass0 (pa_cons (pv 1) (pa_cons pe_int pa_nil))) (fun _ _ => rfl)) (pa_cons (pv 8) (pa_cons (pv 10) (pa_cons pe_str pa_nil))))))))))).pt (pss_one (ps_ret pe_bl)) pss_nil) (pss_cons (ps_if (pw_and (pt_cmpR op_eq (pv 12) pe_int (nomark _)) (pw_and1 (pt_not (pt_val (pe_callGP (ok_ref W) hr hG (W.glo 19) pass0 (pa_cons (pv 3) (pa_cons pe_str (pa_cons (pv 11) (pa_cons (pv 7) (pa_cons (pv 10) (pa_cons pe_str pa_nil))))))))))).pt (pss_one (ps_ret pe_bl)) pss_nil) (pss_cons (ps_if (pw_and (pt_cmpR op_eq (pv 12) pe_int (nomark _)) (pw_and1 (pt_not (pt_val (pe_callGP (ok_ref W) hr hG (W.glo 19) pass0 (pa_cons (pv 3) (pa_cons pe_str (pa_cons (pv 11) (pa_cons (pv 7) (pa_cons (pv 10) (pa_cons pe_str pa_nil))))))))))).pt (pss_one (ps_ret pe_bl)) pss_nil) (pss_cons (ps_if (PW.pt (pw_or (pt_cmpR (op_inC (W.meth 66) GH (hr.mono (by omega)) bH pass0) (pv 9) (pv 3) (by with_unfolding_all rfl)) (pw_or (pt_cmpR (op_inC (W.meth 66) GH (hr.mono (by omega)) bH pass0) (pv 11) (pv 3) (by with_unfolding_all rfl)) (pw_or1 (pt_cmpR (op_neD (Room.u64 hr)) (pe_methP0 (ok_cnms W) W.cls (W.meth 63) (hr.mono (by omega)) pass0 (pv 3)) (pe_lst (pa_cons pe_str (pa_cons pe_str pa_nil))) (nomark _)))))) (pss_one (ps_ret pe_bl)) pss_nil) (pss_cons (ps_if (pw_and (pt_cmpR op_eq (pv 12) pe_int (nomark _)) (pw_and1 (PW.pt (pw_or (pt_cmpR op_notN (pe_methP (ok_ckeep W) W.cls (W.meth 60) (hr.mono (by omega)) passX0 (pv 3) (pa_cons pe_str (pa_cons (pv 7) pa_nil))) pe_non (nomark _)) (pw_or1 (pt_cmpR (op_neD (Room.u64 hr)) (pe_methP (ok_cget W) W.cls (W.meth 64) (hr.mono (by omega)) passX0 (pv 3) (pa_cons pe_str pa_nil)) (pv 7) (nomark _))))))).pt (pss_one (ps_ret pe_bl)) pss_nil) (pss_one (ps_if (pw_and (pt_cmpR op_eq (pv 12) pe_int (nomark _)) (pw_and1 (PW.pt (pw_or (pt_cmpR op_notN (pe_methP (ok_cdrop W) W.cls (W.meth 61) (hr.mono (by omega)) passX0 (pv 3) (pa_cons pe_str pa_nil)) pe_non (nomark _)) (pw_or (pt_cmpR op_notN (pe_methP0 (ok_cundo W) W.cls (W.meth 62) (hr.mono (by omega)) pass0 (pv 3)) pe_non (nomark _)) (pw_or1 (pt_cmpR op_notN (pe_methP0 (ok_cundo W) W.cls (W.meth 62) (hr.mono (by omega)) pass0 (pv 3)) pe_non (nomark _)))))))).pt (pss_one (ps_ret pe_bl)) pss_nil))))))))))))) (pss_cons (ps_if (pt_cmpR (op_neD (Room.u64 hr)) (pe_lc (own := [("name", 5)]) (g := gName 5) (tt := tYes) (te := tMeth (cC K) "grammar" (spGet K) [] E0 (tVar 3) (tCons (tVar 5) tNil)) rfl sc_law.nd (pi_list (pe_lst (pa_cons pe_str (pa_cons pe_str pa_nil)))) (blkOk_by (by kernel_rfl)) (fun _ _ _ _ _ => pg_name (i := 5) sc_law.nd rfl (Or.inl rfl)) (fun _ _ _ _ _ => pts_nil) (fun _ _ _ _ _ => (pe_methP (ok_cget W) W.cls (W.meth 64) (hr.mono (by omega)) passX0 (pv 3) (pa_cons (pv 5) pa_nil)))) (pe_lst (pa_cons (pe_dget (Room.u1 hr) (pv 2) pe_str (fun _ _ => rfl)) (pa_cons (pe_dget (Room.u1 hr) (pv 2) pe_str (fun _ _ => rfl)) pa_nil))) (nomark _)) (pss_one (ps_ret pe_bl)) pss_nil) (pss_one (ps_ret (pe_and (pe_cmpR op_isN (pe_methP0 (ok_cundo W) W.cls (W.meth 62) (hr.mono (by omega)) pass0 (pv 3)) pe_non (nomark _)) (pe_and (pe_cmpR (op_eqD (Room.u64 hr)) (pe_methP0 (ok_cnms W) W.cls (W.meth 63) (hr.mono (by omega)) pass0 (pv 3)) (pe_lst (pa_cons pe_str pa_nil)) (nomark _)) (pe_and (pe_cmpR op_isN (pe_methP0 (ok_cundo W) W.cls (W.meth 62) (hr.mono (by omega)) pass0 (pv 3)) pe_non (nomark _)) (pe_one (pe_cmpR op_eq (pe_callB (call_lenC (W.meth 65) GL (hr.mono (by omega)) bL pass0) (by rfl) W.nLen (by decide +kernel) (pa_cons (pv 3) pa_nil)) pe_int (nomark _)))))))))))))), ?_⟩
    refine ⟨.ref a, rfl, a, ns, rfl, hs, hl, fun H1 sr cl g1 hS1 => ?_⟩
    generalize cellsOf ns = cs at hS1
    have tb1 := ht.gr g1
    clear ht g1 hs hl
    intro kd hkd
    obtain ⟨n1, n2⟩ := hS1.some hkd
    have n1' : kd ∉ [sr] := by simp; exact Ne.symm n1
    refine ⟨.ref sr, rfl, sr, cl, cs, rfl, src_new hS1 n1 n2, fun H2 ga ka na sa ra g2 hS2 oka da => ?_⟩
    refine ⟨.ref sr, rfl, sr, cl, cs, rfl, hS2, fun H3 gb kb nb sb rb g3 hS3 okb db => ?_⟩
    have e3 : H3 kd = some (.dK []) := g3.dK n1' (g2.dK n1' upd_same)
    refine ⟨e3, kv2 ga gb, rfl, by simp, ?_⟩
    rw [show mergeK [] (kv2 ga gb) = kv2 ga gb by kernel_rfl]
    have gu : GrX [kd] H3 (upd H3 kd (.dK (kv2 ga gb))) := GrX.upd (by simp) e3 (fun _ q => by cases q)
    have hS4 := src_new (o := .dK (kv2 ga gb)) hS3 n1 n2
    have ekd : (upd H3 kd (.dK (kv2 ga gb))) kd = some (.dK (kv2 ga gb)) := upd_same
    have da4 := gu.dp (.dK e3) (g3.dp hS2.noSq da)
    have db4 := gu.dp (.dK e3) db
    have tb4 := (((tb1.gr (.new hkd)).grx g2).grx g3).grx gu
    generalize upd H3 kd (.dK (kv2 ga gb)) = H4 at hS4 ekd da4 db4 tb4
    rw [← grmK_data] at da4 db4
    have fa := oka.fac
    have fb := okb.fac
    generalize grmK ka na sa ra = kA at da4 fa
    generalize grmK kb nb sb rb = kB at db4 fb
    clear oka okb da db e3 g2 g3 gu hS1 hS2 hS3 tb1 hkd
    refine fun c dx hc hdx ndx => ⟨c, dx, rfl, upd_same, fun dk dp hdk hdp ndp => ⟨rfl, ?_⟩⟩
    obtain ⟨dkc, hdk1⟩ := upd_free hdk
    obtain ⟨dkx, hdk2⟩ := upd_free hdk1
    obtain ⟨dpc, hdp1⟩ := upd_free hdp
    obtain ⟨dpx, hdp2⟩ := upd_free hdp1
    refine ⟨rfl, fun H6 nm l t g6 hN => ?_⟩
    have gC : Gr H4 (upd (upd (upd (upd (upd H4 dx (.own c)) c (.ins (cC K) dx [])) dk (.dK [])) dp (.lst [])) c (.ins (cC K) dx (cF dk dp))) := .of_same fun x o e => by
      rw [upd_ne (ne_of_none e hc), upd_ne (ne_of_none e hdp2), upd_ne (ne_of_none e hdk2), upd_ne (ne_of_none e hc), upd_ne (ne_of_none e hdx)]
      exact e
    have eC : (upd (upd (upd (upd (upd H4 dx (.own c)) c (.ins (cC K) dx [])) dk (.dK [])) dp (.lst [])) c (.ins (cC K) dx (cF dk dp))) c = some (.ins (cC K) dx (cF dk dp)) := upd_same
    have eK : (upd (upd (upd (upd (upd H4 dx (.own c)) c (.ins (cC K) dx [])) dk (.dK [])) dp (.lst [])) c (.ins (cC K) dx (cF dk dp))) dk = some (.dK []) := by rw [upd_ne dkc, upd_ne (Ne.symm ndp), upd_same]
    have eP : (upd (upd (upd (upd (upd H4 dx (.own c)) c (.ins (cC K) dx [])) dk (.dK [])) dp (.lst [])) c (.ins (cC K) dx (cF dk dp))) dp = some (.lst []) := by rw [upd_ne dpc, upd_same]
    have g6' : Gr (upd (upd (upd (upd (upd H4 dx (.own c)) c (.ins (cC K) dx [])) dk (.dK [])) dp (.lst [])) c (.ins (cC K) dx (cF dk dp))) H6 := g6
    clear g6
    generalize (upd (upd (upd (upd (upd H4 dx (.own c)) c (.ins (cC K) dx [])) dk (.dK [])) dp (.lst [])) c (.ins (cC K) dx (cF dk dp))) = H5 at gC eC eK eP g6'
    refine ⟨by simp [sizeLine_eq], fun tp htp => ?_⟩
    refine ⟨tp, _, rfl, SqT.of upd_same, rfl, .ref c, _, rfl, .ref nm, _, rfl, rfl, ?_⟩
    have gt : Gr H6 (upd H6 tp (.tup [.ref c, .ref nm])) := .new htp
    have g57 := g6'.trans gt
    have g47 := gC.trans g57
    have hN7 : Nms (upd H6 tp (.tup [.ref c, .ref nm])) nm l t := ⟨gt.lst hN.n, gt.lst hN.l, gt.tup hN.t⟩
    have eP7 := g57.lst eP
    have hS7 := hS4.gr g47
    have ndk : dk ≠ sr := fun z => by
      obtain ⟨_, _, _, _, e, _⟩ := hS4.ex
      rw [← z, hdk2] at e
      cases e
    have x4 : nm ≠ dp := fun z => by
      have e := eP7
      rw [← z, hN7.n] at e
      cases e
    have x5 : l ≠ dp := fun z => by
      have e := eP7
      rw [← z, hN7.l] at e
      cases e
    have x6 : cl ≠ dp := fun z => by
      have e := eP7
      rw [← z, hS7.cells] at e
      have p := hS7.pos
      have e2 : cs.map V.int = [] := by injection (Option.some.inj e)
      rw [List.map_eq_nil_iff.mp e2] at p
      exact absurd p (Nat.lt_irrefl _)
    have b0 : LB K sr cl kd c dx dk dp nm l t ga gb cs kA kB [] [] [] (upd H6 tp (.tup [.ref c, .ref nm])) := ⟨hS7, g47.dK ekd, g57.ins eC, g57.dK eK, eP7, (fun p hp => by cases hp), g47.dp da4, g47.dp db4, hN7, tb4.gr g47, Ne.symm n1, ndk, ne_of_none ekd hdk2, x4, x5, x6, fa.nu, fb.nu⟩
    generalize upd H6 tp (.tup [.ref c, .ref nm]) = H7 at b0
    clear hS4 ekd da4 db4 tb4 hc hdx hdk hdp hdk1 hdk2 hdp1 hdp2 gC eC eK eP g6' htp gt g57 g47 hN7 eP7 hS7 ndk hN
    clear x4 x5 x6
    refine ⟨by simp [sizeLine_eq], fun lp hlp => ⟨lp, rfl, ⟨_, SqL.of upd_same⟩, ?_⟩⟩
    have q1 : lp ≠ dp := fun z => by rw [z, b0.hdp] at hlp; cases hlp
    have q2 : lp ≠ dk := fun z => by rw [z, b0.hdk] at hlp; cases hlp
    have b1 := b0.gr (.new (o := .lst [V.str "one", V.str "two"]) hlp)
    have lp1 : (upd H7 lp (.lst [V.str "one", V.str "two"])) lp = some (.lst [V.str "one", V.str "two"]) := upd_same
    clear b0
    refine for_list (K := K) (a := lp) (xs := [V.str "one", V.str "two"]) (fun i σ Hx => ∃ x5 : Option V, σ = [some (.ref a), some (.ref sr), some (.ref kd), some (.ref c), some (.ref nm), x5, none, none, none, none, none, none, none] ∧ Hx lp = some (.lst [V.str "one", V.str "two"]) ∧
      ((i = 0 ∧ LB K sr cl kd c dx dk dp nm l t ga gb cs kA kB [] [] [] Hx) ∨ (i = 1 ∧ ∃ t1, LB K sr cl kd c dx dk dp nm l t ga gb cs kA kB [(.inr "one", .ref ga)] [.ref t1] [(t1, [.str "one", .non])] Hx) ∨
        (i = 2 ∧ ∃ t1 t2, LB K sr cl kd c dx dk dp nm l t ga gb cs kA kB (kv2 ga gb) [.ref t1, .ref t2] [(t2, [.str "two", .non]), (t1, [.str "one", .non])] Hx))) ⟨none, rfl, lp1, .inl ⟨rfl, b1⟩⟩ (fun i σ Hx _ hP => ?_) (fun i x σ Hx hx hP => ?_) (fun σ Hx hP => ?_)
    · obtain ⟨_, _, h, _⟩ := hP
      exact SqL.of h
    · obtain ⟨x5, rfl, hlp2, hP⟩ := hP
      rcases hP with ⟨rfl, b⟩ | ⟨rfl, t1, b⟩ | ⟨rfl, _⟩
      · cases hx
        refine ⟨.ref c, rfl, c, dx, cF dk dp, rfl, b.hc, rfl, .str "one", rfl, .ref kd, rfl, .str "one", rfl, kd, .ref ga, rfl, ?_, ?_⟩
        · have z := DGet.k (k := .inr "one") b.hkd
          rwa [show valV (kv2 ga gb) (.inr "one") = some (.ref ga) by kernel_rfl] at z
        · refine keep_read b (by decide +kernel) (by decide +kernel) b.hga fa.nu fa.gr fa.sz fa.sh (by decide) (by decide) rfl (by kernel_rfl) fun Hy r g e1 e2 e3 => ?_
          have by_ := b.chg g e1 e2
          refine ⟨_, rfl, g.lst (by simp; exact ⟨q2, q1⟩) hlp2, .inr (.inl ⟨rfl, r, { by_ with tp := fun p hp => ?_ }⟩)⟩
          rw [List.mem_singleton.mp hp]
          exact e3
      · cases hx
        refine ⟨.ref c, rfl, c, dx, cF dk dp, rfl, b.hc, rfl, .str "two", rfl, .ref kd, rfl, .str "two", rfl, kd, .ref gb, rfl, ?_, ?_⟩
        · have z := DGet.k (k := .inr "two") b.hkd
          rwa [show valV (kv2 ga gb) (.inr "two") = some (.ref gb) by kernel_rfl] at z
        · refine keep_read b (by decide +kernel) (by decide +kernel) b.hgb fb.nu fb.gr fb.sz fb.sh (by show 1 < 100; decide) (by show 1 < 100; decide) (by kernel_rfl) (by kernel_rfl) fun Hy r g e1 e2 e3 => ?_
          have by_ := b.chg g e1 e2
          refine ⟨_, rfl, g.lst (by simp; exact ⟨q2, q1⟩) hlp2, .inr (.inr ⟨rfl, t1, r, { by_ with tp := fun p hp => ?_ }⟩)⟩
          rcases List.mem_cons.mp hp with e | hp
          · rw [e]; exact e3
          · exact by_.tp p hp
      · cases hx
    · obtain ⟨x5, rfl, _, hP⟩ := hP
      obtain ⟨t1, t2, b⟩ : ∃ t1 t2, LB K sr cl kd c dx dk dp nm l t ga gb cs kA kB (kv2 ga gb) [.ref t1, .ref t2] [(t2, [.str "two", .non]), (t1, [.str "one", .non])] Hx := by
        rcases hP with ⟨e, _⟩ | ⟨e, _⟩ | ⟨_, h⟩
        · cases e
        · cases e
        · exact h
      clear b1 lp1 hlp q1 q2 hP
      refine ⟨10, rfl, by decide, by decide, ?_⟩
      refine for_range (lo := 0) (n := (10 : Int).toNat) (fun i σ Hx => ∃ x5 x6 x7 x8 x9 x10 x11 x12 : Option V, σ = [some (.ref a), some (.ref sr), some (.ref kd), some (.ref c), some (.ref nm), x5, x6, x7, x8, x9, x10, x11, x12] ∧
        LB K sr cl kd c dx dk dp nm l t ga gb cs kA kB (kv2 ga gb) [.ref t1, .ref t2] [(t2, [.str "two", .non]), (t1, [.str "one", .non])] Hx) ⟨_, _, _, _, _, _, _, _, rfl, b⟩ (fun i σ Hx hi hP => ?_) (fun σ Hx hP => ?_)
      · obtain ⟨x5, x6, x7, x8, x9, x10, x11, x12, rfl, b⟩ := hP
        refine ⟨.ref sr, rfl, sr, cl, cs, rfl, b.src, fun Ha gg kk nn ss rr gx hSa okg dg => ?_⟩
        replace b := b.draw gx hSa
        rw [← grmK_data] at dg
        have fg := okg.fac
        simp only [List.set_cons_zero, List.set_cons_succ]
        refine ⟨.ref sr, rfl, .ref gg, rfl, sr, cl, cs, gg, kk, nn, ss, rr, rfl, b.src, okg, by rw [← grmK_data]; exact dg, fun Hb vb db gx2 hSb nb sb2 hb => ?_⟩
        have dg2 := gx2.dp b.src.noSq dg
        replace b := b.draw gx2 hSb
        try clear dg okg
        generalize grmK kk nn ss rr = kG at fg dg2
        refine ⟨.ref nm, rfl, .ref sr, rfl, sr, cl, cs, 18, rfl, by omega, by omega, b.src, fun Hc r1 gx3 hSc r10 r11 => ?_⟩
        obtain ⟨j1, rfl⟩ : ∃ j : Nat, r1 = j := ⟨r1.toNat, by omega⟩
        have dg3 := gx3.dp b.src.noSq dg2
        have hb3 := gx3.dp b.src.noSq hb
        replace b := b.draw gx3 hSc
        try clear dg2 hb
        have hj1 : j1 < (nmV l t).length := by show j1 < 18; omega
        obtain ⟨od, ho1, ho2⟩ := DpAll.get b.hnm.dp (List.getElem?_eq_getElem hj1)
        have ho3 := nmD_show (List.mem_of_getElem? ho1)
        refine ⟨nm, nmV l t, j1, (nmV l t)[j1], rfl, rfl, SqL.of b.hnm.n, atI_nat (List.getElem?_eq_getElem hj1), ?_⟩
        generalize (nmV l t)[j1] = vo at ho2
        try clear ho1
        refine ⟨.ref sr, rfl, sr, cl, cs, 2, rfl, by omega, by omega, b.src, fun Hd r2 gx4 hSd r20 r21 => ⟨rfl, ?_⟩⟩
        have dg4 := gx4.dp b.src.noSq dg3
        have hb4 := gx4.dp b.src.noSq hb3
        have ho4 := gx4.dp b.src.noSq ho2
        replace b := b.draw gx4 hSd
        try clear dg3 hb3 ho2
        generalize decide (V.int r2 = V.int 1) = nb2
        refine ⟨vb, vo, .bl nb2, rfl, ?_⟩
        simp only [List.set_cons_zero, List.set_cons_succ]
        refine ⟨vo, rfl, by simp [sizeLine_eq], fun lq hlq => ?_⟩
        have b' := b.gr (.new (o := .lst [vo, V.str "on", V.str "onee", V.str "tw", V.str "eno"]) hlq)
        have gq : Gr Hd (upd Hd lq (.lst [vo, V.str "on", V.str "onee", V.str "tw", V.str "eno"])) := .new hlq
        have eq1 : (upd Hd lq (.lst [vo, V.str "on", V.str "onee", V.str "tw", V.str "eno"])) lq = some (.lst [vo, V.str "on", V.str "onee", V.str "tw", V.str "eno"]) := upd_same
        have dg5 := gq.dp dg4
        have hb5 := gq.dp hb4
        have ho5 := gq.dp ho4
        have nlq : lq ∉ [sr] := fun z => by
          obtain ⟨_, _, _, _, e, _⟩ := b.src.ex
          rw [List.mem_singleton.mp z, e] at hlq
          cases hlq
        generalize upd Hd lq (.lst [vo, V.str "on", V.str "onee", V.str "tw", V.str "eno"]) = Hq at b' gq eq1 dg5 hb5 ho5
        try clear dg4 hb4 ho4 b hlq gq
        have b := b'
        try clear b'
        refine ⟨.ref sr, rfl, sr, cl, cs, 5, rfl, by omega, by omega, b.src, fun He r3 gx5 hSe r30 r31 => ?_⟩
        obtain ⟨j3, rfl⟩ : ∃ j : Nat, r3 = j := ⟨r3.toNat, by omega⟩
        have eq2 := gx5.lst nlq eq1
        have dg6 := gx5.dp b.src.noSq dg5
        have hb6 := gx5.dp b.src.noSq hb5
        have ho6 := gx5.dp b.src.noSq ho5
        replace b := b.draw gx5 hSe
        try clear dg5 hb5 ho5 eq1
        have dps : DpAll K He [vo, V.str "on", V.str "onee", V.str "tw", V.str "eno"] (stD od) := .cons ho6 (.cons (.str _) (.cons (.str _) (.cons (.str _) (.cons (.str _) .nil))))
        have hj3 : j3 < [vo, V.str "on", V.str "onee", V.str "tw", V.str "eno"].length := by show j3 < 5; omega
        obtain ⟨sd, hs1, hs2⟩ := DpAll.get dps (List.getElem?_eq_getElem hj3)
        have hs3 := stD_all od ho3 ga gb sd (List.mem_of_getElem? hs1)
        refine ⟨lq, _, j3, [vo, V.str "on", V.str "onee", V.str "tw", V.str "eno"][j3], rfl, rfl, SqL.of eq2, atI_nat (List.getElem?_eq_getElem hj3), ?_⟩
        generalize [vo, V.str "on", V.str "onee", V.str "tw", V.str "eno"][j3] = vs at hs2
        try clear dps hs1 eq2 nlq
        simp only [List.set_cons_zero, List.set_cons_succ]
        refine ⟨.ref sr, rfl, sr, cl, cs, 5, rfl, by omega, by omega, b.src, fun Hf r4 gx6 hSf r40 r41 => ?_⟩
        have dg7 := gx6.dp b.src.noSq dg6
        have hb7 := gx6.dp b.src.noSq hb6
        have ho7 := gx6.dp b.src.noSq ho6
        have hs7 := gx6.dp b.src.noSq hs2
        replace b := b.draw gx6 hSf
        try clear dg6 hb6 ho6 hs2
        simp only [List.set_cons_zero, List.set_cons_succ]
        have hc5 : r4 = 0 ∨ r4 = 1 ∨ r4 = 2 ∨ r4 = 3 ∨ r4 = 4 := by omega
        rcases hc5 with h4 | h4 | h4 | h4 | h4
        · refine ⟨.int r4, rfl, rfl, _, rfl, ?_⟩
          rw [decT (show r4 = 0 by omega)]
          refine ⟨.ref c, rfl, vo, rfl, .ref gg, rfl, vb, rfl, by simp [sizeLine_eq], fun lz hlz => ?_⟩
          have gz : Gr Hf (upd Hf lz (.lst [V.ref gg, vb])) := .new hlz
          have ez : (upd Hf lz (.lst [V.ref gg, vb])) lz = some (.lst [V.ref gg, vb]) := upd_same
          have nz : lz ∉ [sr] := fun z => by
            obtain ⟨_, _, _, _, e, _⟩ := b.src.ex
            rw [List.mem_singleton.mp z, e] at hlz
            cases hlz
          replace b := b.gr gz
          replace ho7 := gz.dp ho7
          replace hs7 := gz.dp hs7
          replace dg7 := gz.dp dg7
          replace hb7 := gz.dp hb7
          refine ⟨.ref sr, rfl, sr, cl, cs, 2, rfl, by omega, by omega, b.src, fun Hg r5 gx7 hSg r50 r51 => ?_⟩
          obtain ⟨j5, rfl⟩ : ∃ j : Nat, r5 = j := ⟨r5.toNat, by omega⟩
          have ez2 := gx7.lst nz ez
          replace ho7 := gx7.dp b.src.noSq ho7
          replace hs7 := gx7.dp b.src.noSq hs7
          replace dg7 := gx7.dp b.src.noSq dg7
          replace hb7 := gx7.dp b.src.noSq hb7
          replace b := b.draw gx7 hSg
          have dps : DpAll K Hg [V.ref gg, vb] [kG.data, db] := .cons dg7 (.cons hb7 .nil)
          have hj5 : j5 < [V.ref gg, vb].length := by show j5 < 2; omega
          obtain ⟨gd, hg1, hg2⟩ := DpAll.get dps (List.getElem?_eq_getElem hj5)
          have hg3 : szD gd ∧ ShowD gd := by
            rcases List.mem_cons.mp (List.mem_of_getElem? hg1) with e | e
            · rw [e]; exact ⟨fg.sz, fg.sw⟩
            · rw [List.mem_singleton.mp e]; exact ⟨sz_of_sm sb2.is (by decide), sb2.is.show (by decide) (by decide)⟩
          refine ⟨lz, _, j5, [V.ref gg, vb][j5], rfl, rfl, SqL.of ez2, atI_nat (List.getElem?_eq_getElem hj5), .bl nb2, rfl, ?_⟩
          refine ⟨c, dx, dk, dp, "keep", "name", vo, _, nb2, od, gd, kv2 ga gb, _, rfl, b.hc, b.hdk, b.hdp, by rw [sizeLine_eq]; show 2 < 16777216; decide, by rw [sizeLine_eq]; show 2 < 16777216; decide, ho7, hg2, ho3.2.1, hg3.1, b.tb, ho3.1, hg3.2, .name ho3.2.2, fun Hh gh => ⟨true, rfl, ?_⟩⟩
          replace b := b.gr gh
          replace ho7 := gh.dp ho7
          replace hs7 := gh.dp hs7
          replace dg7 := gh.dp dg7
          refine ⟨.int r4, rfl, rfl, _, rfl, ?_⟩
          rw [decF (show r4 ≠ 1 by omega)]
          refine ⟨.int r4, rfl, rfl, _, rfl, ?_⟩
          rw [decF (show r4 ≠ 2 by omega)]
          refine ⟨.int r4, rfl, rfl, _, rfl, ?_⟩
          rw [decF (show r4 ≠ 3 by omega)]
          refine ⟨vo, rfl, .ref c, rfl, has_read b ho7 ho3.2.1 (inD_bad ho3.2.2) fun Hi gi => ⟨_, rfl, ?_⟩⟩
          replace b := b.gr gi
          replace hs7 := gi.dp hs7
          replace dg7 := gi.dp dg7
          refine ⟨vs, rfl, .ref c, rfl, has_read b hs7 hs3.2.1 hs3.2.2 fun Hj gj => ⟨_, rfl, ?_⟩⟩
          replace b := b.gr gj
          replace dg7 := gj.dp dg7
          refine ⟨.ref c, rfl, c, dx, cF dk dp, rfl, b.hc, rfl, ?_⟩
          refine nil_arg (sp := spNms K) (names_two b fun Hk pk gk dlk => ⟨by simp [sizeLine_eq], fun lz hlz => ?_⟩)
          refine ⟨_, _, (Gr.new hlz).dp dlk, .lst (SqL.of upd_same) (.cons (.str _) (.cons (.str _) .nil)), by decide +kernel, by decide +kernel, _, rfl, ?_⟩
          rw [show (!PyData.eqv (.list [.str "one", .str "two"]) (.list [.str "one", .str "two"])) = false by decide +kernel]
          have gzz := Gr.new (o := .lst [V.str "one", V.str "two"]) hlz
          replace b := (b.gr gk).gr gzz
          replace dg7 := gzz.dp (gk.dp dg7)
          refine ⟨.int r4, rfl, rfl, _, rfl, ?_⟩
          rw [decF (show r4 ≠ 4 by omega)]
          refine ⟨.int r4, rfl, rfl, _, rfl, ?_⟩
          rw [decF (show r4 ≠ 4 by omega)]
          exact ⟨_, _, _, _, _, _, _, _, rfl, b⟩
        · refine ⟨.int r4, rfl, rfl, _, rfl, ?_⟩
          rw [decF (show r4 ≠ 0 by omega)]
          refine ⟨.int r4, rfl, rfl, _, rfl, ?_⟩
          rw [decT (show r4 = 1 by omega)]
          refine ⟨.ref c, rfl, by simp [sizeLine_eq], fun lz hlz => ?_⟩
          have gz : Gr Hf (upd Hf lz (.lst [V.str "one", V.str "three"])) := .new hlz
          have ez : (upd Hf lz (.lst [V.str "one", V.str "three"])) lz = some (.lst [V.str "one", V.str "three"]) := upd_same
          have nz : lz ∉ [sr] := fun z => by
            obtain ⟨_, _, _, _, e, _⟩ := b.src.ex
            rw [List.mem_singleton.mp z, e] at hlz
            cases hlz
          replace b := b.gr gz
          replace ho7 := gz.dp ho7
          replace hs7 := gz.dp hs7
          replace dg7 := gz.dp dg7
          replace hb7 := gz.dp hb7
          refine ⟨.ref sr, rfl, sr, cl, cs, 2, rfl, by omega, by omega, b.src, fun Hg r5 gx7 hSg r50 r51 => ?_⟩
          obtain ⟨j5, rfl⟩ : ∃ j : Nat, r5 = j := ⟨r5.toNat, by omega⟩
          have ez2 := gx7.lst nz ez
          replace ho7 := gx7.dp b.src.noSq ho7
          replace hs7 := gx7.dp b.src.noSq hs7
          replace dg7 := gx7.dp b.src.noSq dg7
          replace hb7 := gx7.dp b.src.noSq hb7
          replace b := b.draw gx7 hSg
          have dps : DpAll K Hg [V.str "one", V.str "three"] [.str "one", .str "three"] := .cons (.str _) (.cons (.str _) .nil)
          have hj5 : j5 < [V.str "one", V.str "three"].length := by show j5 < 2; omega
          obtain ⟨nd, hg1, hg2⟩ := DpAll.get dps (List.getElem?_eq_getElem hj5)
          have hg3 := two_names nd (List.mem_of_getElem? hg1)
          refine ⟨lz, _, j5, [V.str "one", V.str "three"][j5], rfl, rfl, SqL.of ez2, atI_nat (List.getElem?_eq_getElem hj5), vb, rfl, .bl nb2, rfl, ?_⟩
          refine ⟨c, dx, dk, dp, "keep", "grammar", _, vb, nb2, nd, db, kv2 ga gb, _, rfl, b.hc, b.hdk, b.hdp, by rw [sizeLine_eq]; show 2 < 16777216; decide, by rw [sizeLine_eq]; show 2 < 16777216; decide, hg2, hb7, hg3.2.1, sz_of_sm sb2.is (by decide), b.tb, hg3.1, sb2.is.show (by decide) (by decide), .gram hg3.2.2 nb, fun Hh gh => ⟨true, rfl, ?_⟩⟩
          replace b := b.gr gh
          replace ho7 := gh.dp ho7
          replace hs7 := gh.dp hs7
          replace dg7 := gh.dp dg7
          refine ⟨.int r4, rfl, rfl, _, rfl, ?_⟩
          rw [decF (show r4 ≠ 2 by omega)]
          refine ⟨.int r4, rfl, rfl, _, rfl, ?_⟩
          rw [decF (show r4 ≠ 3 by omega)]
          refine ⟨vo, rfl, .ref c, rfl, has_read b ho7 ho3.2.1 (inD_bad ho3.2.2) fun Hi gi => ⟨_, rfl, ?_⟩⟩
          replace b := b.gr gi
          replace hs7 := gi.dp hs7
          replace dg7 := gi.dp dg7
          refine ⟨vs, rfl, .ref c, rfl, has_read b hs7 hs3.2.1 hs3.2.2 fun Hj gj => ⟨_, rfl, ?_⟩⟩
          replace b := b.gr gj
          replace dg7 := gj.dp dg7
          refine ⟨.ref c, rfl, c, dx, cF dk dp, rfl, b.hc, rfl, ?_⟩
          refine nil_arg (sp := spNms K) (names_two b fun Hk pk gk dlk => ⟨by simp [sizeLine_eq], fun lz hlz => ?_⟩)
          refine ⟨_, _, (Gr.new hlz).dp dlk, .lst (SqL.of upd_same) (.cons (.str _) (.cons (.str _) .nil)), by decide +kernel, by decide +kernel, _, rfl, ?_⟩
          rw [show (!PyData.eqv (.list [.str "one", .str "two"]) (.list [.str "one", .str "two"])) = false by decide +kernel]
          have gzz := Gr.new (o := .lst [V.str "one", V.str "two"]) hlz
          replace b := (b.gr gk).gr gzz
          replace dg7 := gzz.dp (gk.dp dg7)
          refine ⟨.int r4, rfl, rfl, _, rfl, ?_⟩
          rw [decF (show r4 ≠ 4 by omega)]
          refine ⟨.int r4, rfl, rfl, _, rfl, ?_⟩
          rw [decF (show r4 ≠ 4 by omega)]
          exact ⟨_, _, _, _, _, _, _, _, rfl, b⟩
        · refine ⟨.int r4, rfl, rfl, _, rfl, ?_⟩
          rw [decF (show r4 ≠ 0 by omega)]
          refine ⟨.int r4, rfl, rfl, _, rfl, ?_⟩
          rw [decF (show r4 ≠ 1 by omega)]
          refine ⟨.int r4, rfl, rfl, _, rfl, ?_⟩
          rw [decT (show r4 = 2 by omega)]
          refine ⟨.ref c, rfl, vs, rfl, .ref gg, rfl, .bl nb2, rfl, ?_⟩
          refine ⟨c, dx, dk, dp, "drop", "unknown", vs, .ref gg, nb2, sd, kG.data, kv2 ga gb, _, rfl, b.hc, b.hdk, b.hdp, by rw [sizeLine_eq]; show 2 < 16777216; decide, by rw [sizeLine_eq]; show 2 < 16777216; decide, hs7, dg7, hs3.2.1, fg.sz, b.tb, hs3.1, fg.sw, .drop hs3.2.2, fun Hh gh => ⟨true, rfl, ?_⟩⟩
          replace b := b.gr gh
          replace ho7 := gh.dp ho7
          replace hs7 := gh.dp hs7
          replace dg7 := gh.dp dg7
          refine ⟨.int r4, rfl, rfl, _, rfl, ?_⟩
          rw [decF (show r4 ≠ 3 by omega)]
          refine ⟨vo, rfl, .ref c, rfl, has_read b ho7 ho3.2.1 (inD_bad ho3.2.2) fun Hi gi => ⟨_, rfl, ?_⟩⟩
          replace b := b.gr gi
          replace hs7 := gi.dp hs7
          replace dg7 := gi.dp dg7
          refine ⟨vs, rfl, .ref c, rfl, has_read b hs7 hs3.2.1 hs3.2.2 fun Hj gj => ⟨_, rfl, ?_⟩⟩
          replace b := b.gr gj
          replace dg7 := gj.dp dg7
          refine ⟨.ref c, rfl, c, dx, cF dk dp, rfl, b.hc, rfl, ?_⟩
          refine nil_arg (sp := spNms K) (names_two b fun Hk pk gk dlk => ⟨by simp [sizeLine_eq], fun lz hlz => ?_⟩)
          refine ⟨_, _, (Gr.new hlz).dp dlk, .lst (SqL.of upd_same) (.cons (.str _) (.cons (.str _) .nil)), by decide +kernel, by decide +kernel, _, rfl, ?_⟩
          rw [show (!PyData.eqv (.list [.str "one", .str "two"]) (.list [.str "one", .str "two"])) = false by decide +kernel]
          have gzz := Gr.new (o := .lst [V.str "one", V.str "two"]) hlz
          replace b := (b.gr gk).gr gzz
          replace dg7 := gzz.dp (gk.dp dg7)
          refine ⟨.int r4, rfl, rfl, _, rfl, ?_⟩
          rw [decF (show r4 ≠ 4 by omega)]
          refine ⟨.int r4, rfl, rfl, _, rfl, ?_⟩
          rw [decF (show r4 ≠ 4 by omega)]
          exact ⟨_, _, _, _, _, _, _, _, rfl, b⟩
        · refine ⟨.int r4, rfl, rfl, _, rfl, ?_⟩
          rw [decF (show r4 ≠ 0 by omega)]
          refine ⟨.int r4, rfl, rfl, _, rfl, ?_⟩
          rw [decF (show r4 ≠ 1 by omega)]
          refine ⟨.int r4, rfl, rfl, _, rfl, ?_⟩
          rw [decF (show r4 ≠ 2 by omega)]
          refine ⟨.int r4, rfl, rfl, _, rfl, ?_⟩
          rw [decT (show r4 = 3 by omega)]
          refine ⟨.ref c, rfl, vs, rfl, .ref gg, rfl, .bl nb2, rfl, ?_⟩
          refine ⟨c, dx, dk, dp, "grammar", "unknown", vs, .ref gg, nb2, sd, kG.data, kv2 ga gb, _, rfl, b.hc, b.hdk, b.hdp, by rw [sizeLine_eq]; show 2 < 16777216; decide, by rw [sizeLine_eq]; show 2 < 16777216; decide, hs7, dg7, hs3.2.1, fg.sz, b.tb, hs3.1, fg.sw, .get hs3.2.2, fun Hh gh => ⟨true, rfl, ?_⟩⟩
          replace b := b.gr gh
          replace ho7 := gh.dp ho7
          replace hs7 := gh.dp hs7
          replace dg7 := gh.dp dg7
          refine ⟨vo, rfl, .ref c, rfl, has_read b ho7 ho3.2.1 (inD_bad ho3.2.2) fun Hi gi => ⟨_, rfl, ?_⟩⟩
          replace b := b.gr gi
          replace hs7 := gi.dp hs7
          replace dg7 := gi.dp dg7
          refine ⟨vs, rfl, .ref c, rfl, has_read b hs7 hs3.2.1 hs3.2.2 fun Hj gj => ⟨_, rfl, ?_⟩⟩
          replace b := b.gr gj
          replace dg7 := gj.dp dg7
          refine ⟨.ref c, rfl, c, dx, cF dk dp, rfl, b.hc, rfl, ?_⟩
          refine nil_arg (sp := spNms K) (names_two b fun Hk pk gk dlk => ⟨by simp [sizeLine_eq], fun lz hlz => ?_⟩)
          refine ⟨_, _, (Gr.new hlz).dp dlk, .lst (SqL.of upd_same) (.cons (.str _) (.cons (.str _) .nil)), by decide +kernel, by decide +kernel, _, rfl, ?_⟩
          rw [show (!PyData.eqv (.list [.str "one", .str "two"]) (.list [.str "one", .str "two"])) = false by decide +kernel]
          have gzz := Gr.new (o := .lst [V.str "one", V.str "two"]) hlz
          replace b := (b.gr gk).gr gzz
          replace dg7 := gzz.dp (gk.dp dg7)
          refine ⟨.int r4, rfl, rfl, _, rfl, ?_⟩
          rw [decF (show r4 ≠ 4 by omega)]
          refine ⟨.int r4, rfl, rfl, _, rfl, ?_⟩
          rw [decF (show r4 ≠ 4 by omega)]
          exact ⟨_, _, _, _, _, _, _, _, rfl, b⟩
        · refine ⟨.int r4, rfl, rfl, _, rfl, ?_⟩
          rw [decF (show r4 ≠ 0 by omega)]
          refine ⟨.int r4, rfl, rfl, _, rfl, ?_⟩
          rw [decF (show r4 ≠ 1 by omega)]
          refine ⟨.int r4, rfl, rfl, _, rfl, ?_⟩
          rw [decF (show r4 ≠ 2 by omega)]
          refine ⟨.int r4, rfl, rfl, _, rfl, ?_⟩
          rw [decF (show r4 ≠ 3 by omega)]
          refine ⟨vo, rfl, .ref c, rfl, has_read b ho7 ho3.2.1 (inD_bad ho3.2.2) fun Hi gi => ⟨_, rfl, ?_⟩⟩
          replace b := b.gr gi
          replace hs7 := gi.dp hs7
          replace dg7 := gi.dp dg7
          refine ⟨vs, rfl, .ref c, rfl, has_read b hs7 hs3.2.1 hs3.2.2 fun Hj gj => ⟨_, rfl, ?_⟩⟩
          replace b := b.gr gj
          replace dg7 := gj.dp dg7
          refine ⟨.ref c, rfl, c, dx, cF dk dp, rfl, b.hc, rfl, ?_⟩
          refine nil_arg (sp := spNms K) (names_two b fun Hk pk gk dlk => ⟨by simp [sizeLine_eq], fun lz hlz => ?_⟩)
          refine ⟨_, _, (Gr.new hlz).dp dlk, .lst (SqL.of upd_same) (.cons (.str _) (.cons (.str _) .nil)), by decide +kernel, by decide +kernel, _, rfl, ?_⟩
          rw [show (!PyData.eqv (.list [.str "one", .str "two"]) (.list [.str "one", .str "two"])) = false by decide +kernel]
          have gzz := Gr.new (o := .lst [V.str "one", V.str "two"]) hlz
          replace b := (b.gr gk).gr gzz
          replace dg7 := gzz.dp (gk.dp dg7)
          refine ⟨.int r4, rfl, rfl, _, rfl, ?_⟩
          rw [decT (show r4 = 4 by omega)]
          refine ⟨.ref c, rfl, c, dx, cF dk dp, rfl, b.hc, rfl, .ref gg, rfl, ?_⟩
          refine keep_read (n := "three") b (by decide +kernel) (by decide +kernel) dg7 fg.nu fg.gr fg.sz fg.sh (by show 2 < 100; decide) (by show 2 < 100; decide) (by kernel_rfl) (by kernel_rfl) fun Hm ra2 gm m1 m2 m3 => ⟨rfl, _, rfl, ?_⟩
          rw [not_refl]
          have dg8 := dp_num (sqt_chg gm b.hdk b.hdp) _ _ fg.nu dg7
          have b2 := b.chg gm m1 m2
          refine ⟨.ref c, rfl, c, dx, cF dk dp, rfl, b2.hc, rfl, ?_⟩
          refine get_read (n := "three") (g := .ref gg) b2 (by kernel_rfl) (by decide +kernel) (by kernel_rfl) fun Hn gn => ?_
          refine ⟨.ref gg, rfl, kG.data, kG.data, gn.dp dg8, gn.dp dg8, fg.sh, fg.sh, _, rfl, ?_⟩
          rw [fg.eq]
          have b3 := b2.gr gn
          have dg9 := gn.dp dg8
          have m3' := gn.tup m3
          refine ⟨.int r4, rfl, rfl, _, rfl, ?_⟩
          rw [decT (show r4 = 4 by omega)]
          refine ⟨.ref c, rfl, c, dx, cF dk dp, rfl, b3.hc, rfl, ?_⟩
          refine drop_read (n := "three") (g := .ref gg) b3 (by kernel_rfl) (by decide +kernel) dg9 fg.nu fg.sh (by show 3 < 100; decide) (by show 3 < 100; decide) (by kernel_rfl) fun Ho rb2 go o1 o2 o3 => ⟨rfl, _, rfl, ?_⟩
          rw [not_refl]
          have nra : ∀ {z : Addr} {xs : List V} {Hz : Hp} {kv : List (Key × V)} {pz : List V}, Hz dk = some (.dK kv) → Hz dp = some (.lst pz) → Hz z = some (.tup xs) → z ∉ [dk, dp] := fun {z xs Hz kv pz} h1 h2 h3 h => by
            rcases List.mem_cons.mp h with h | h
            · rw [h, h1] at h3; cases h3
            · rw [List.mem_singleton.mp h, h2] at h3; cases h3
          have m4 := go.tup (nra b3.hdk b3.hdp m3') m3'
          have o1' : Ho dk = some (.dK (kv2 ga gb)) := o1.trans (congrArg (fun z => some (HO.dK z)) (show dropK (kv3 ga gb gg) (.inr "three") = kv2 ga gb by kernel_rfl))
          have b4 := b3.chg go o1' o2
          refine ⟨.ref c, rfl, c, dx, cF dk dp, rfl, b4.hc, rfl, ?_⟩
          refine nil_arg (sp := spUndo K) (undo_read (ps := [.ref t1, .ref t2] ++ [.ref ra2]) (n := "three") (g := .ref gg) b4 o3 (by show 2 < 100; decide) fun Hp1 gp p1 p2 => ⟨rfl, _, rfl, ?_⟩)
          rw [not_refl]
          have m5 := gp.tup (nra b4.hdk b4.hdp m4) m4
          have p1' : Hp1 dk = some (.dK (kv3 ga gb gg)) := p1.trans (congrArg (fun z => some (HO.dK z)) (show newK (kv2 ga gb) "three" (.ref gg) = kv3 ga gb gg by kernel_rfl))
          have b5 := b4.chg gp p1' p2
          refine ⟨.ref c, rfl, c, dx, cF dk dp, rfl, b5.hc, rfl, ?_⟩
          refine nil_arg (sp := spUndo K) (undo_read (ps := [.ref t1, .ref t2]) (n := "three") (g := .non) b5 m5 (by show 3 < 100; decide) fun Hp2 gp2 p3 p4 => ⟨rfl, _, rfl, ?_⟩)
          rw [not_refl]
          have p3' : Hp2 dk = some (.dK (kv2 ga gb)) := p3.trans (congrArg (fun z => some (HO.dK z)) (show newK (kv3 ga gb gg) "three" .non = kv2 ga gb by kernel_rfl))
          have b6 := b5.chg gp2 p3' p4
          exact ⟨_, _, _, _, _, _, _, _, rfl, b6⟩
      · obtain ⟨x5, x6, x7, x8, x9, x10, x11, x12, rfl, b⟩ := hP
        refine ⟨by simp [sizeLine_eq], fun lp hlp => ⟨lp, rfl, ⟨_, SqL.of upd_same⟩, fun D hD => ?_⟩⟩
        have b1 := b.gr (.new (o := .lst [V.str "one", V.str "two"]) hlp)
        have lp1 : (upd Hx lp (.lst [V.str "one", V.str "two"])) lp = some (.lst [V.str "one", V.str "two"]) := upd_same
        have hD' : (upd Hx lp (.lst [V.str "one", V.str "two"])) D = none := hD
        have hDb := hD'
        generalize (upd Hx lp (.lst [V.str "one", V.str "two"])) = Hb at b1 lp1 hDb
        clear b hlp hD hD'
        refine lc_list (K := K) (a := lp) (xs := [V.str "one", V.str "two"]) (fun i Hc => GrX [D] Hb Hc ∧ ∃ acc, Hc D = some (.lst acc) ∧ ((i = 0 ∧ acc = []) ∨ (i = 1 ∧ acc = [.ref ga]) ∨ (i = 2 ∧ acc = [.ref ga, .ref gb]))) ⟨grx_new' (grx_refl _ _) hDb, _, upd_same, .inl ⟨rfl, rfl⟩⟩ (fun i Hc _ hP => ?_) (fun i x Hc hx hP => ?_) (fun Hc hP => ?_)
        · exact SqL.of ((grx_gr hP.1 hDb).lst lp1)
        · obtain ⟨gD, acc, eD, hP⟩ := hP
          have bc := b1.gr (grx_gr gD hDb)
          have step : ∀ {Hy : Hp} {y : V}, Gr Hc Hy → Hy D = some (.lst acc) ∧ GrX [D] Hb (upd Hy D (.lst (acc ++ [y]))) := fun {Hy y} gy => by
            have e := gy.lst eD
            exact ⟨e, (gD.trans (Gr.grx gy _)).trans (GrX.upd (by simp) e fun _ q => by cases q)⟩
          rcases hP with ⟨rfl, rfl⟩ | ⟨rfl, rfl⟩ | ⟨rfl, rfl⟩
          · cases hx
            refine ⟨rfl, ?_⟩
            refine ⟨.ref c, rfl, c, dx, cF dk dp, rfl, bc.hc, rfl, .str "one", rfl, ?_⟩
            refine get_read (n := "one") (g := .ref ga) bc (by kernel_rfl) (by decide +kernel) (by kernel_rfl) fun Hy gy => ?_
            obtain ⟨s1, s2⟩ := step (y := .ref ga) gy
            exact ⟨_, s1, by rw [sizeLine_eq]; decide, s2, _, upd_same, .inr (.inl ⟨rfl, rfl⟩)⟩
          · cases hx
            refine ⟨rfl, ?_⟩
            refine ⟨.ref c, rfl, c, dx, cF dk dp, rfl, bc.hc, rfl, .str "two", rfl, ?_⟩
            refine get_read (n := "two") (g := .ref gb) bc (by kernel_rfl) (by decide +kernel) (by kernel_rfl) fun Hy gy => ?_
            obtain ⟨s1, s2⟩ := step (y := .ref gb) gy
            exact ⟨_, s1, by rw [sizeLine_eq]; show 1 < 16777216; decide, s2, _, upd_same, .inr (.inr ⟨rfl, rfl⟩)⟩
          · cases hx
        · obtain ⟨gD, acc, eD, hP⟩ := hP
          have eD2 : Hc D = some (.lst [.ref ga, .ref gb]) := by
            rcases hP with ⟨e, _⟩ | ⟨e, _⟩ | ⟨_, e⟩
            · cases e
            · cases e
            · rw [eD, e]
          have bc := b1.gr (grx_gr gD hDb)
          have k1 : DGet Hc kd (.str "one") (some (.ref ga)) := by
            have z := DGet.k (k := .inr "one") bc.hkd
            rwa [show valV (kv2 ga gb) (.inr "one") = some (.ref ga) by kernel_rfl] at z
          have k2 : DGet Hc kd (.str "two") (some (.ref gb)) := by
            have z := DGet.k (k := .inr "two") bc.hkd
            rwa [show valV (kv2 ga gb) (.inr "two") = some (.ref gb) by kernel_rfl] at z
          refine ⟨.ref kd, rfl, kd, .ref ga, rfl, k1, .ref kd, rfl, kd, .ref gb, rfl, k2, by simp [sizeLine_eq], fun lz hlz => ?_⟩
          have gz := Gr.new (o := .lst [V.ref ga, V.ref gb]) hlz
          have ez : (upd Hc lz (.lst [V.ref ga, V.ref gb])) lz = some (.lst [V.ref ga, V.ref gb]) := upd_same
          obtain ⟨sh2, eq2⟩ := shaped_two fa fb
          have bz := bc.gr gz
          refine ⟨.list [kA.data, kB.data], .list [kA.data, kB.data], .lst (SqL.of (gz.lst eD2)) (.cons bz.hga (.cons bz.hgb .nil)), .lst (SqL.of ez) (.cons bz.hga (.cons bz.hgb .nil)), sh2, sh2, _, rfl, ?_⟩
          rw [eq2]
          have yes : decide (V.non = V.non) = true := decide_eq_true rfl
          refine ⟨.ref c, rfl, c, dx, cF dk dp, rfl, bz.hc, rfl, ?_⟩
          refine nil_arg (sp := spUndo K) (undo_read (ps := [.ref t1]) (n := "two") (g := .non) bz (bz.tp (t2, [.str "two", .non]) (by simp)) (by show 2 < 100; decide) fun Hu gu u1 u2 => ⟨rfl, _, rfl, ?_⟩)
          rw [yes]
          have u1' : Hu dk = some (.dK (kv1 ga)) := u1.trans (congrArg (fun z => some (HO.dK z)) (show newK (kv2 ga gb) "two" .non = kv1 ga by kernel_rfl))
          have bu := bz.chg gu u1' u2
          refine ⟨.ref c, rfl, c, dx, cF dk dp, rfl, bu.hc, rfl, ?_⟩
          refine nil_arg (sp := spNms K) (names_one bu fun Hk pk gk dlk => ⟨by simp [sizeLine_eq], fun lw hlw => ?_⟩)
          refine ⟨_, _, (Gr.new hlw).dp dlk, .lst (SqL.of upd_same) (.cons (.str _) .nil), by decide +kernel, by decide +kernel, _, rfl, ?_⟩
          rw [show PyData.eqv (.list [.str "one"]) (.list [.str "one"]) = true by decide +kernel]
          have gw := Gr.new (o := .lst [V.str "one"]) hlw
          have bw := (bu.gr gk).gr gw
          refine ⟨.ref c, rfl, c, dx, cF dk dp, rfl, bw.hc, rfl, ?_⟩
          refine nil_arg (sp := spUndo K) (undo_read (ps := []) (n := "one") (g := .non) bw (bw.tp (t1, [.str "one", .non]) (by simp)) (by show 1 < 100; decide) fun Hv gv v1 v2 => ⟨rfl, _, rfl, ?_⟩)
          rw [yes]
          have v1' : Hv dk = some (.dK []) := v1.trans (congrArg (fun z => some (HO.dK z)) (show newK (kv1 ga) "one" .non = [] by kernel_rfl))
          have bv := bw.chg gv v1' v2
          refine ⟨.ref c, rfl, c, dx, cF dk dp, rfl, bv.hc, c, dx, dk, dp, [], rfl, bv.hc, bv.hdk, 0, rfl, by decide, rfl, ?_⟩
          have zero : decide (V.int ((0 : Nat) : Int) = V.int 0) = true := decide_eq_true rfl
          first
            | exact q _
            | (rw [zero]; exact q _)
end
end K74
/-! ## Md -/
set_option Elab.async false
set_option linter.all false
set_option maxRecDepth 100000
set_option maxHeartbeats 4000000
namespace K74
open PySem PySem.Spec PyProof.Rows L2 LamX
/-! ### the end: a law that asks for no repr under way -/
/-- what is tracked ahead of the call: the tables of code, the script if it is not written -/
def hp0G (K : PySem.W.Frag) (ts : List Addr) (a : Addr) (o : Obj) (xs : List V) : Hp := fun b => if b ∈ ts then some (.tbl #[]) else if b = a ∧ (K.lookup a).isNone = true then some (.frz o (.lst xs)) else none
section
variable {K : PySem.W.Frag} {ts : List Addr} {a b : Addr} {o : Obj} {xs : List V}
theorem hp0G_tab (h : b ∈ ts) : hp0G K ts a o xs b = some (.tbl #[]) := if_pos h
theorem hp0G_scr (h : a ∉ ts) (n : K.lookup a = none) : hp0G K ts a o xs a = some (.frz o (.lst xs)) := (if_neg h).trans (if_pos ⟨rfl, by rw [n]; rfl⟩)
theorem hp0G_out (h : b ∉ ts) (n : ¬ (b = a ∧ (K.lookup a).isNone = true)) : hp0G K ts a o xs b = none := (if_neg h).trans (if_neg n)
theorem hp0G_some {u : HO} (e : hp0G K ts a o xs b = some u) : (b ∈ ts ∧ u = .tbl #[]) ∨ (b ∉ ts ∧ b = a ∧ K.lookup a = none ∧ u = .frz o (.lst xs)) := by
  by_cases h : b ∈ ts
  · rw [hp0G_tab h] at e
    exact .inl ⟨h, (Option.some.inj e).symm⟩
  · by_cases n : b = a ∧ (K.lookup a).isNone = true
    · have e2 : hp0G K ts a o xs b = some (.frz o (.lst xs)) := (if_neg h).trans (if_pos n)
      rw [e2] at e
      exact .inr ⟨h, n.1, Option.isNone_iff_eq_none.mp n.2, (Option.some.inj e).symm⟩
    · rw [hp0G_out h n] at e
      cases e
end
theorem law_callG {P : Program} {w : World} {K : PySem.W.Frag} {mg mb : Str → Option Value} {CX : CXT} {k : Nat} {fa a : Addr} {cs : List (Addr × Addr)} {fd : FuncData} {x : Str} {sp : Sp} {s₁ : Shared} {vs : List Value} {ns : List Int}
    (written : K.In s₁.heap) (glob : s₁.heap.Ns mainGlobals mg) (blt : s₁.heap.Ns builtinsNs mb) (bltEq : ∀ x : Str, x ≠ "__name__" → mb x = bootBuiltins x) (nolim : s₁.heap.NoLimit) (gens0 : s₁.gens = #[])
    (tabs : ∀ p ∈ cs, s₁.heap.get? p.2 = some { cls := .none, data := .fields #[] }) (tabsK : ∀ p ∈ cs, K.lookup p.2 = none) (codes : ∀ p ∈ cs, PySem.W.CodeHd s₁.heap p.1 p.2)
    (main : ∃ (bm : Addr) (ob : Obj), mg "__builtins__" = some (.ref bm) ∧ bm ≠ builtinsNs ∧ s₁.heap.get? bm = some ob ∧ ob.cls = .type "module" ∧ ob.dict = some builtinsNs ∧ ob.data = .plain)
    (scr : s₁.heap.get? a = some { cls := .type "list", data := .seq vs.toArray }) (inTs : IntsAre vs ns) (short : ns.length ≤ sizeLine) (room : Room k callerA)
    (keeps : ∀ base : Heap, K.In base → base.Ns mainGlobals mg → (∀ p ∈ cs, GxR.TabB base mg p.1 p.2) → FnG P w K mg base CX k fa fd [x] sp) (binds : ∀ (s : Shared) (u : Value), BindsTo s fd ⟨[u], []⟩ [(x, u)])
    (asks : ∀ H : Hp, (∀ p ∈ cs, H p.2 = some (.tbl #[])) → SqL K H a (ns.map V.int) → sp [.ref a] H (fun v _ => v = .bl true) fun _ _ _ => False)
    (noRaise : ∀ H e s', CX [] H s₁ (fun _ _ _ => False) e s' → False) :
    codeAny (model P w) callerA (.call (.ref fa) ⟨[.ref a], []⟩) (fun r s' => r = .ok (.ret (.bool true)) ∧ OldK s₁.heap s'.heap ∧ s'.os = s₁.os ∧ AllBare s'.gens) s₁ := by
  have vals := vals_ints inTs
  have tabAt : ∀ {b : Addr}, b ∈ cs.map (·.2) → s₁.heap.get? b = some { cls := .none, data := .fields #[] } := fun {b} hb => by
    obtain ⟨p, hp, rfl⟩ := List.mem_map.mp hb
    exact tabs p hp
  have scrNo : a ∉ cs.map (·.2) := fun z => by
    have e := tabAt z
    rw [scr] at e
    cases e
  obtain ⟨H, eH⟩ : ∃ H : Hp, H = hp0G K (cs.map (·.2)) a { cls := .type "list", data := .seq vs.toArray } (ns.map V.int) := ⟨_, rfl⟩
  have hTab : ∀ p ∈ cs, H p.2 = some (.tbl #[]) := fun p hp => by rw [eH]; exact hp0G_tab (List.mem_map.mpr ⟨p, hp, rfl⟩)
  have hSome : ∀ {b : Addr} {u : HO}, H b = some u → (b ∈ cs.map (·.2) ∧ u = .tbl #[]) ∨ (b ∉ cs.map (·.2) ∧ b = a ∧ K.lookup a = none ∧ u = .frz { cls := .type "list", data := .seq vs.toArray } (.lst (ns.map V.int))) := fun {b u} e => hp0G_some (by rw [← eH]; exact e)
  -- what is of another kind is not tracked
  have other : ∀ {b : Addr} {o : Obj}, s₁.heap.get? b = some o → (∀ ws n, o.data ≠ .seq ws n) → o.data ≠ .fields #[] → H b = none := fun {b o} e h1 h2 => by
    cases q : H b with
    | none => rfl
    | some u =>
      rcases hSome q with ⟨m, _⟩ | ⟨_, m, _, _⟩
      · rw [tabAt m] at e
        cases e
        exact absurd rfl h2
      · rw [m, scr] at e
        cases e
        exact absurd rfl (h1 _ _)
  have spaces : ∀ {b : Addr} {m : Str → Option Value}, s₁.heap.Ns b m → (hidT s₁.heap H).Ns b m := fun {b m} h => by
    obtain ⟨o, es, ep, e, d, r⟩ := h
    exact ⟨o, es, ep, hidT_get e (other e (fun _ _ z => by rw [d] at z; cases z) fun z => by rw [d] at z; cases z), d, r⟩
  have baseK : K.In (hidT s₁.heap H) := fun b o e => by
    refine hidT_get (written b o e) ?_
    cases q : H b with
    | none => rfl
    | some u =>
      rcases hSome q with ⟨m, _⟩ | ⟨_, m, n, _⟩
      · obtain ⟨p, hp, rfl⟩ := List.mem_map.mp m
        rw [tabsK p hp] at e
        cases e
      · rw [m, n] at e
        cases e
  have tabB : ∀ p ∈ cs, GxR.TabB (hidT s₁.heap H) mg p.1 p.2 := fun p hp => by
    obtain ⟨bm, ob, m1, m2, m3, m4, m5, m6⟩ := main
    have seqNo : ∀ ws n, ob.data ≠ .seq ws n := fun _ _ z => by rw [m6] at z; cases z
    have fldNo : ob.data ≠ .fields #[] := fun z => by rw [m6] at z; cases z
    refine ⟨?_, ⟨bm, ob, m1, m2, fun q => ?_, fun q => ?_, hidT_get m3 (other m3 seqNo fldNo), m4, m5, m6⟩, fun z => ?_⟩
    · obtain ⟨o, us, file, tf, flags, tg, inF, text, tt, c1, c2, c3, c4, c5, c6, c7, c8, c9, c10⟩ := codes p hp
      refine ⟨o, us, file, tf, flags, tg, inF, text, tt, hidT_get c1 (other c1 (fun _ _ z => ?_) fun z => ?_), c2, c3, c4, c5, c6, c7, c8, c9, c10⟩
      · rw [c3] at z; cases z
      · rw [c3] at z
        cases z
        simp at c4
    · obtain ⟨o, es, ep, e, d, _⟩ := glob
      rw [q, e] at m3
      cases m3
      rw [d] at m6
      cases m6
    · rw [q, tabs p hp] at m3
      cases m3
      cases m6
    · obtain ⟨o, es, ep, e, d, _⟩ := glob
      rw [z, tabs p hp] at e
      cases e
      cases d
  have hok : HOk P w H s₁.heap := fun b u e => by
    rcases hSome e with ⟨m, rfl⟩ | ⟨_, m, _, rfl⟩
    · exact tabAt m
    · rw [m]
      exact ⟨scr, by rw [List.length_map]; exact short, vs, _, vals, scr⟩
  have scrL : SqL K H a (ns.map V.int) := by
    cases n : K.lookup a with
    | none => exact .inl (.inr ⟨_, by rw [eH]; exact hp0G_scr scrNo n⟩)
    | some o =>
      have e := written a o n
      rw [scr] at e
      cases e
      exact .inr ⟨_, vs.toArray, _, n, rfl, rfl, rfl, by rw [List.size_toArray, inTs.length]; exact short, by simpa using vals⟩
  have env : Env0 P w K mg (hidT s₁.heap H) callerA [] s₁ H := ⟨rfl, ⟨baseK, spaces glob, ⟨mb, spaces blt, bltEq⟩, let ⟨mc, h1, h2⟩ := nolim; ⟨mc, spaces h1, h2⟩⟩, fun b o e => of_hidT e, Nat.le_of_eq (hidT_size _ _), trivial, fun b hb => (by cases hb), hok, .of_eq gens0⟩
  refine codeAny_mono ((keeps _ baseK (spaces glob) tabB).run callerA [] s₁ H ⟨[.ref a], []⟩ [.ref a] [.ref a] _ _ room rfl env (binds s₁ (.ref a)) (.cons rfl .nil) (asks H hTab scrL)) fun r s' done => ?_
  match r, done with
  | .error e, done => exact (noRaise H e s' done).elim
  | .ok .next, done => exact False.elim done
  | .ok .brk, done => exact False.elim done
  | .ok .cont, done => exact False.elim done
  | .ok (.ret u), done =>
    obtain ⟨v, H', os, bare, un, hok', rv, ev⟩ := done
    have ev' : v = .bl true := ev
    subst ev'
    obtain rfl : u = Value.bool true := rv
    have grown : ∀ p ∈ cs, ∃ more : Array Value, s'.heap.get? p.2 = some { cls := .none, data := .fields more } := fun p hp => by
      obtain ⟨more, z⟩ := un.tbls p.2 #[] (hTab p hp)
      exact ⟨_, hok' p.2 _ z⟩
    have still : ∀ b o, b ∉ cs.map (·.2) → s₁.heap.get? b = some o → s'.heap.get? b = some o := fun b o nb e => by
      cases q : H b with
      | none => exact un.keep b o e q (fun z => by cases z) fun z => by cases z
      | some u =>
        rcases hSome q with ⟨m, _⟩ | ⟨_, _, _, rfl⟩
        · exact absurd m nb
        · obtain ⟨e1, _⟩ := hok b _ q
          obtain ⟨e2, _⟩ := hok' b _ (un.frzs b _ _ q)
          rw [e] at e1
          cases e1
          exact e2
    refine ⟨rfl, ⟨fun b o e => ?_, fun b o e => ?_⟩, os, bare⟩
    · by_cases nb : b ∈ cs.map (·.2)
      · obtain ⟨p, hp, rfl⟩ := List.mem_map.mp nb
        obtain ⟨more, z⟩ := grown p hp
        rw [tabs p hp] at e
        cases e
        exact .inr (.inl ⟨((codes p hp).tab (tabs p hp)).isCodeTable, rfl, #[], more, rfl, by rw [Array.empty_append]; exact z⟩)
      · exact .inl (still b o nb e)
    · by_cases nb : b ∈ cs.map (·.2)
      · obtain ⟨p, hp, rfl⟩ := List.mem_map.mp nb
        obtain ⟨more, z⟩ := grown p hp
        exact ⟨_, z⟩
      · exact ⟨o, still b o nb e⟩
/-- what is known of the law at the head's heap -/
def LawG (l : PySem.W.OpenLaw) (w : World) (K : PySem.W.Frag) (CX : CXT) (k n : Nat) (x : Str) (mg : Str → Option Value) (fa : Addr) (h : Heap) : Prop :=
  ∃ (fd : FuncData) (cs : List (Addr × Addr)) (sp : Sp), (∀ p ∈ cs, h.get? p.2 = some { cls := .none, data := .fields #[] }) ∧ (∀ p ∈ cs, K.lookup p.2 = none) ∧ (∀ p ∈ cs, PySem.W.CodeHd h p.1 p.2) ∧ (∀ (s : Shared) (u : Value), BindsTo s fd ⟨[u], []⟩ [(x, u)]) ∧
    (∀ (H : Hp) (a : Addr) (ns : List Int), ns.length ≤ n → (∀ p ∈ cs, H p.2 = some (.tbl #[])) → SqL K H a (ns.map V.int) → sp [.ref a] H (fun v _ => v = .bl true) fun _ _ _ => False) ∧
    ∀ base : Heap, K.In base → base.Ns mainGlobals mg → (∀ p ∈ cs, GxR.TabB base mg p.1 p.2) → FnG l.prog w K mg base CX k fa fd [x] sp
theorem walkG {l : PySem.W.OpenLaw} {n k : Nat} {q : Program} {loose : List Str} {XP : (Str → Option Value) → Heap → Prop} {YP : World → Heap → Prop} {d : DefRec} {CX : World → CXT} {x : Str} (many : l.most = some n) (few : n ≤ sizeLine) (plain : d.params.defaults = []) (room : Room k callerA)
    (F : ∀ (w : World) (mg : Str → Option Value) (fa : Addr) (h : Heap), YP w h → h.Ns mainGlobals mg → mg d.name = some (.ref fa) → ∃ K : PySem.W.Frag, K.In h ∧ LawG l w K (CX w) k n x mg fa h)
    (noRaise : ∀ (w : World) (H : Hp) (s : Shared) (e : Value) (s' : Shared), CX w [] H s (fun _ _ _ => False) e s' → False) : PySem.W.WalkO q loose XP YP l.row.toRowW d [] (fun f vs => PySem.call f vs) := by
  refine Att.attach_callB many plain fun w s₀ s₁ mg mb fa o pm cd doc a vs ns G Y h1 h2 h3 hmg hobj hints hlen hbits hg => ?_
  obtain ⟨K, KX, fd, cs, sp, c1, c2, c3, c4, c5, c6⟩ := F w mg fa _ Y G.T.g hmg
  exact law_callG KX G.T.g G.T.b G.T.builtins G.T.nolimit hg c1 c2 c3 G.T.bmain hobj hints (Nat.le_trans hlen few) room c6 c4 (fun H hH hS => c5 H a ns hlen hH hS) fun H e s' => noRaise w H s₁ e s'
end K74
/-! ## Ha -/
set_option Elab.async false
set_option linter.all false
set_option maxRecDepth 100000
set_option maxHeartbeats 0
namespace K74
open PySem PySem.W PySem.Calls PyProof.Rows He HandSHeadRun L2
noncomputable section
/-- a text's hash in a dict -/
def hs (w : World) (x : Str) : Int := reduceHash (w.params.strHash x.cps)
def t0 : Str := ⟨⟨[95,95,110,97,109,101,95,95]⟩⟩
def t1 : Str := ⟨⟨[95,95,100,111,99,95,95]⟩⟩
def t2 : Str := ⟨⟨[95,95,112,97,99,107,97,103,101,95,95]⟩⟩
def t3 : Str := ⟨⟨[95,95,108,111,97,100,101,114,95,95]⟩⟩
def t4 : Str := ⟨⟨[95,95,115,112,101,99,95,95]⟩⟩
def t5 : Str := ⟨⟨[95,95,98,117,105,108,100,95,99,108,97,115,115,95,95]⟩⟩
def t6 : Str := ⟨⟨[95,95,105,109,112,111,114,116,95,95]⟩⟩
def t7 : Str := ⟨⟨[97,98,115]⟩⟩
def t8 : Str := ⟨⟨[97,108,108]⟩⟩
def t9 : Str := ⟨⟨[97,110,121]⟩⟩
def t10 : Str := ⟨⟨[97,115,99,105,105]⟩⟩
def t11 : Str := ⟨⟨[98,105,110]⟩⟩
def t12 : Str := ⟨⟨[98,114,101,97,107,112,111,105,110,116]⟩⟩
def t13 : Str := ⟨⟨[99,97,108,108,97,98,108,101]⟩⟩
def t14 : Str := ⟨⟨[99,104,114]⟩⟩
def t15 : Str := ⟨⟨[99,111,109,112,105,108,101]⟩⟩
def t16 : Str := ⟨⟨[100,101,108,97,116,116,114]⟩⟩
def t17 : Str := ⟨⟨[100,105,114]⟩⟩
def t18 : Str := ⟨⟨[100,105,118,109,111,100]⟩⟩
def t19 : Str := ⟨⟨[101,118,97,108]⟩⟩
def t20 : Str := ⟨⟨[101,120,101,99]⟩⟩
def t21 : Str := ⟨⟨[102,111,114,109,97,116]⟩⟩
def t22 : Str := ⟨⟨[103,101,116,97,116,116,114]⟩⟩
def t23 : Str := ⟨⟨[103,108,111,98,97,108,115]⟩⟩
def t24 : Str := ⟨⟨[104,97,115,97,116,116,114]⟩⟩
def t25 : Str := ⟨⟨[104,97,115,104]⟩⟩
def t26 : Str := ⟨⟨[104,101,120]⟩⟩
def t27 : Str := ⟨⟨[105,100]⟩⟩
def t28 : Str := ⟨⟨[105,110,112,117,116]⟩⟩
def t29 : Str := ⟨⟨[105,115,105,110,115,116,97,110,99,101]⟩⟩
def t30 : Str := ⟨⟨[105,115,115,117,98,99,108,97,115,115]⟩⟩
def t31 : Str := ⟨⟨[105,116,101,114]⟩⟩
def t32 : Str := ⟨⟨[97,105,116,101,114]⟩⟩
def t33 : Str := ⟨⟨[108,101,110]⟩⟩
def t34 : Str := ⟨⟨[108,111,99,97,108,115]⟩⟩
def t35 : Str := ⟨⟨[109,97,120]⟩⟩
def t36 : Str := ⟨⟨[109,105,110]⟩⟩
def t37 : Str := ⟨⟨[110,101,120,116]⟩⟩
def t38 : Str := ⟨⟨[97,110,101,120,116]⟩⟩
def t39 : Str := ⟨⟨[111,99,116]⟩⟩
def t40 : Str := ⟨⟨[111,114,100]⟩⟩
def t41 : Str := ⟨⟨[112,111,119]⟩⟩
def t42 : Str := ⟨⟨[112,114,105,110,116]⟩⟩
def t43 : Str := ⟨⟨[114,101,112,114]⟩⟩
def t44 : Str := ⟨⟨[114,111,117,110,100]⟩⟩
def t45 : Str := ⟨⟨[115,101,116,97,116,116,114]⟩⟩
def t46 : Str := ⟨⟨[115,111,114,116,101,100]⟩⟩
def t47 : Str := ⟨⟨[115,117,109]⟩⟩
def t48 : Str := ⟨⟨[118,97,114,115]⟩⟩
def t49 : Str := ⟨⟨[78,111,110,101]⟩⟩
def t50 : Str := ⟨⟨[69,108,108,105,112,115,105,115]⟩⟩
def t51 : Str := ⟨⟨[78,111,116,73,109,112,108,101,109,101,110,116,101,100]⟩⟩
def t52 : Str := ⟨⟨[70,97,108,115,101]⟩⟩
def t53 : Str := ⟨⟨[84,114,117,101]⟩⟩
def t54 : Str := ⟨⟨[98,111,111,108]⟩⟩
def t55 : Str := ⟨⟨[109,101,109,111,114,121,118,105,101,119]⟩⟩
def t56 : Str := ⟨⟨[98,121,116,101,97,114,114,97,121]⟩⟩
def t57 : Str := ⟨⟨[98,121,116,101,115]⟩⟩
def t58 : Str := ⟨⟨[99,108,97,115,115,109,101,116,104,111,100]⟩⟩
def t59 : Str := ⟨⟨[99,111,109,112,108,101,120]⟩⟩
def t60 : Str := ⟨⟨[100,105,99,116]⟩⟩
def t61 : Str := ⟨⟨[101,110,117,109,101,114,97,116,101]⟩⟩
def t62 : Str := ⟨⟨[102,105,108,116,101,114]⟩⟩
def t63 : Str := ⟨⟨[102,108,111,97,116]⟩⟩
def t64 : Str := ⟨⟨[102,114,111,122,101,110,115,101,116]⟩⟩
def t65 : Str := ⟨⟨[112,114,111,112,101,114,116,121]⟩⟩
def t66 : Str := ⟨⟨[105,110,116]⟩⟩
def t67 : Str := ⟨⟨[108,105,115,116]⟩⟩
def t68 : Str := ⟨⟨[109,97,112]⟩⟩
def t69 : Str := ⟨⟨[111,98,106,101,99,116]⟩⟩
def t70 : Str := ⟨⟨[114,97,110,103,101]⟩⟩
def t71 : Str := ⟨⟨[114,101,118,101,114,115,101,100]⟩⟩
def t72 : Str := ⟨⟨[115,101,116]⟩⟩
def t73 : Str := ⟨⟨[115,108,105,99,101]⟩⟩
def t74 : Str := ⟨⟨[115,116,97,116,105,99,109,101,116,104,111,100]⟩⟩
def t75 : Str := ⟨⟨[115,116,114]⟩⟩
def t76 : Str := ⟨⟨[115,117,112,101,114]⟩⟩
def t77 : Str := ⟨⟨[116,117,112,108,101]⟩⟩
def t78 : Str := ⟨⟨[116,121,112,101]⟩⟩
def t79 : Str := ⟨⟨[122,105,112]⟩⟩
def t80 : Str := ⟨⟨[95,95,100,101,98,117,103,95,95]⟩⟩
def t81 : Str := ⟨⟨[66,97,115,101,69,120,99,101,112,116,105,111,110]⟩⟩
def t82 : Str := ⟨⟨[66,97,115,101,69,120,99,101,112,116,105,111,110,71,114,111,117,112]⟩⟩
def t83 : Str := ⟨⟨[69,120,99,101,112,116,105,111,110]⟩⟩
def t84 : Str := ⟨⟨[71,101,110,101,114,97,116,111,114,69,120,105,116]⟩⟩
def t85 : Str := ⟨⟨[75,101,121,98,111,97,114,100,73,110,116,101,114,114,117,112,116]⟩⟩
def t86 : Str := ⟨⟨[83,121,115,116,101,109,69,120,105,116]⟩⟩
def t87 : Str := ⟨⟨[65,114,105,116,104,109,101,116,105,99,69,114,114,111,114]⟩⟩
def t88 : Str := ⟨⟨[65,115,115,101,114,116,105,111,110,69,114,114,111,114]⟩⟩
def t89 : Str := ⟨⟨[65,116,116,114,105,98,117,116,101,69,114,114,111,114]⟩⟩
def t90 : Str := ⟨⟨[66,117,102,102,101,114,69,114,114,111,114]⟩⟩
def t91 : Str := ⟨⟨[69,79,70,69,114,114,111,114]⟩⟩
def t92 : Str := ⟨⟨[73,109,112,111,114,116,69,114,114,111,114]⟩⟩
def t93 : Str := ⟨⟨[76,111,111,107,117,112,69,114,114,111,114]⟩⟩
def t94 : Str := ⟨⟨[77,101,109,111,114,121,69,114,114,111,114]⟩⟩
def t95 : Str := ⟨⟨[78,97,109,101,69,114,114,111,114]⟩⟩
def t96 : Str := ⟨⟨[79,83,69,114,114,111,114]⟩⟩
def t97 : Str := ⟨⟨[82,101,102,101,114,101,110,99,101,69,114,114,111,114]⟩⟩
def t98 : Str := ⟨⟨[82,117,110,116,105,109,101,69,114,114,111,114]⟩⟩
def t99 : Str := ⟨⟨[83,116,111,112,65,115,121,110,99,73,116,101,114,97,116,105,111,110]⟩⟩
def t100 : Str := ⟨⟨[83,116,111,112,73,116,101,114,97,116,105,111,110]⟩⟩
def t101 : Str := ⟨⟨[83,121,110,116,97,120,69,114,114,111,114]⟩⟩
def t102 : Str := ⟨⟨[83,121,115,116,101,109,69,114,114,111,114]⟩⟩
def t103 : Str := ⟨⟨[84,121,112,101,69,114,114,111,114]⟩⟩
def t104 : Str := ⟨⟨[86,97,108,117,101,69,114,114,111,114]⟩⟩
def t105 : Str := ⟨⟨[87,97,114,110,105,110,103]⟩⟩
def t106 : Str := ⟨⟨[70,108,111,97,116,105,110,103,80,111,105,110,116,69,114,114,111,114]⟩⟩
def t107 : Str := ⟨⟨[79,118,101,114,102,108,111,119,69,114,114,111,114]⟩⟩
def t108 : Str := ⟨⟨[90,101,114,111,68,105,118,105,115,105,111,110,69,114,114,111,114]⟩⟩
def t109 : Str := ⟨⟨[66,121,116,101,115,87,97,114,110,105,110,103]⟩⟩
def t110 : Str := ⟨⟨[68,101,112,114,101,99,97,116,105,111,110,87,97,114,110,105,110,103]⟩⟩
def t111 : Str := ⟨⟨[69,110,99,111,100,105,110,103,87,97,114,110,105,110,103]⟩⟩
def t112 : Str := ⟨⟨[70,117,116,117,114,101,87,97,114,110,105,110,103]⟩⟩
def t113 : Str := ⟨⟨[73,109,112,111,114,116,87,97,114,110,105,110,103]⟩⟩
def t114 : Str := ⟨⟨[80,101,110,100,105,110,103,68,101,112,114,101,99,97,116,105,111,110,87,97,114,110,105,110,103]⟩⟩
def t115 : Str := ⟨⟨[82,101,115,111,117,114,99,101,87,97,114,110,105,110,103]⟩⟩
def t116 : Str := ⟨⟨[82,117,110,116,105,109,101,87,97,114,110,105,110,103]⟩⟩
def t117 : Str := ⟨⟨[83,121,110,116,97,120,87,97,114,110,105,110,103]⟩⟩
def t118 : Str := ⟨⟨[85,110,105,99,111,100,101,87,97,114,110,105,110,103]⟩⟩
def t119 : Str := ⟨⟨[85,115,101,114,87,97,114,110,105,110,103]⟩⟩
def t120 : Str := ⟨⟨[66,108,111,99,107,105,110,103,73,79,69,114,114,111,114]⟩⟩
def t121 : Str := ⟨⟨[67,104,105,108,100,80,114,111,99,101,115,115,69,114,114,111,114]⟩⟩
def t122 : Str := ⟨⟨[67,111,110,110,101,99,116,105,111,110,69,114,114,111,114]⟩⟩
def t123 : Str := ⟨⟨[70,105,108,101,69,120,105,115,116,115,69,114,114,111,114]⟩⟩
def t124 : Str := ⟨⟨[70,105,108,101,78,111,116,70,111,117,110,100,69,114,114,111,114]⟩⟩
def t125 : Str := ⟨⟨[73,110,116,101,114,114,117,112,116,101,100,69,114,114,111,114]⟩⟩
def t126 : Str := ⟨⟨[73,115,65,68,105,114,101,99,116,111,114,121,69,114,114,111,114]⟩⟩
def t127 : Str := ⟨⟨[78,111,116,65,68,105,114,101,99,116,111,114,121,69,114,114,111,114]⟩⟩
def t128 : Str := ⟨⟨[80,101,114,109,105,115,115,105,111,110,69,114,114,111,114]⟩⟩
def t129 : Str := ⟨⟨[80,114,111,99,101,115,115,76,111,111,107,117,112,69,114,114,111,114]⟩⟩
def t130 : Str := ⟨⟨[84,105,109,101,111,117,116,69,114,114,111,114]⟩⟩
def t131 : Str := ⟨⟨[73,110,100,101,110,116,97,116,105,111,110,69,114,114,111,114]⟩⟩
def t132 : Str := ⟨⟨[95,73,110,99,111,109,112,108,101,116,101,73,110,112,117,116,69,114,114,111,114]⟩⟩
def t133 : Str := ⟨⟨[73,110,100,101,120,69,114,114,111,114]⟩⟩
def t134 : Str := ⟨⟨[75,101,121,69,114,114,111,114]⟩⟩
def t135 : Str := ⟨⟨[77,111,100,117,108,101,78,111,116,70,111,117,110,100,69,114,114,111,114]⟩⟩
def t136 : Str := ⟨⟨[78,111,116,73,109,112,108,101,109,101,110,116,101,100,69,114,114,111,114]⟩⟩
def t137 : Str := ⟨⟨[80,121,116,104,111,110,70,105,110,97,108,105,122,97,116,105,111,110,69,114,114,111,114]⟩⟩
def t138 : Str := ⟨⟨[82,101,99,117,114,115,105,111,110,69,114,114,111,114]⟩⟩
def t139 : Str := ⟨⟨[85,110,98,111,117,110,100,76,111,99,97,108,69,114,114,111,114]⟩⟩
def t140 : Str := ⟨⟨[85,110,105,99,111,100,101,69,114,114,111,114]⟩⟩
def t141 : Str := ⟨⟨[66,114,111,107,101,110,80,105,112,101,69,114,114,111,114]⟩⟩
def t142 : Str := ⟨⟨[67,111,110,110,101,99,116,105,111,110,65,98,111,114,116,101,100,69,114,114,111,114]⟩⟩
def t143 : Str := ⟨⟨[67,111,110,110,101,99,116,105,111,110,82,101,102,117,115,101,100,69,114,114,111,114]⟩⟩
def t144 : Str := ⟨⟨[67,111,110,110,101,99,116,105,111,110,82,101,115,101,116,69,114,114,111,114]⟩⟩
def t145 : Str := ⟨⟨[84,97,98,69,114,114,111,114]⟩⟩
def t146 : Str := ⟨⟨[85,110,105,99,111,100,101,68,101,99,111,100,101,69,114,114,111,114]⟩⟩
def t147 : Str := ⟨⟨[85,110,105,99,111,100,101,69,110,99,111,100,101,69,114,114,111,114]⟩⟩
def t148 : Str := ⟨⟨[85,110,105,99,111,100,101,84,114,97,110,115,108,97,116,101,69,114,114,111,114]⟩⟩
def t149 : Str := ⟨⟨[69,120,99,101,112,116,105,111,110,71,114,111,117,112]⟩⟩
def t150 : Str := ⟨⟨[69,110,118,105,114,111,110,109,101,110,116,69,114,114,111,114]⟩⟩
def t151 : Str := ⟨⟨[73,79,69,114,114,111,114]⟩⟩
def t152 : Str := ⟨⟨[111,112,101,110]⟩⟩
def t153 : Str := ⟨⟨[113,117,105,116]⟩⟩
def t154 : Str := ⟨⟨[101,120,105,116]⟩⟩
def t155 : Str := ⟨⟨[99,111,112,121,114,105,103,104,116]⟩⟩
def t156 : Str := ⟨⟨[99,114,101,100,105,116,115]⟩⟩
def t157 : Str := ⟨⟨[108,105,99,101,110,115,101]⟩⟩
def t158 : Str := ⟨⟨[104,101,108,112]⟩⟩
def t159 : Str := ⟨⟨[98,117,105,108,116,105,110,115]⟩⟩
def t160 : Str := ⟨⟨[95,95,109,97,105,110,95,95]⟩⟩
def t161 : Str := ⟨⟨[109,97,116,104]⟩⟩
def t162 : Str := ⟨⟨[105,109,112,111,114,116,46,108,111,97,100,101,100,46,109,97,116,104]⟩⟩
def t163 : Str := ⟨⟨[99,108,97,115,115,46,95,102,114,111,122,101,110,95,105,109,112,111,114,116,108,105,98,95,101,120,116,101,114,110,97,108,46,95,76,111,97,100,101,114,66,97,115,105,99,115]⟩⟩
def t164 : Str := ⟨⟨[119,97,116,99,104,101,100,46,105,109,112,111,114,116]⟩⟩
def t165 : Str := ⟨⟨[99,108,97,115,115,46,95,102,114,111,122,101,110,95,105,109,112,111,114,116,108,105,98,95,101,120,116,101,114,110,97,108,46,70,105,108,101,76,111,97,100,101,114]⟩⟩
def t166 : Str := ⟨⟨[99,108,97,115,115,46,95,102,114,111,122,101,110,95,105,109,112,111,114,116,108,105,98,95,101,120,116,101,114,110,97,108,46,69,120,116,101,110,115,105,111,110,70,105,108,101,76,111,97,100,101,114]⟩⟩
def t167 : Str := ⟨⟨[99,108,97,115,115,46,95,102,114,111,122,101,110,95,105,109,112,111,114,116,108,105,98,46,77,111,100,117,108,101,83,112,101,99]⟩⟩
def t168 : Str := ⟨⟨[115,121,115,46,109,111,100,117,108,101,115,46,98,111,111,107,101,100,45,101,112,111,99,104]⟩⟩
def t169 : Str := ⟨⟨[105,109,112,111,114,116,46,108,97,116,101,114,45,108,97,105,100,46,109,97,116,104]⟩⟩
def t170 : Str := ⟨⟨[119,97,116,99,104,101,100,46,108,105,98,114,97,114,121]⟩⟩
def t171 : Str := ⟨⟨[119,97,116,99,104,101,100,46,108,105,98,114,97,114,121,45,111,98,106,101,99,116,115]⟩⟩
def t172 : Str := ⟨⟨[13]⟩⟩
def t173 : Str := ⟨⟨[95,95,97,110,110,111,116,97,116,105,111,110,115,95,95]⟩⟩
def t174 : Str := ⟨⟨[95,95,98,117,105,108,116,105,110,115,95,95]⟩⟩
def t175 : Str := ⟨⟨[95,95,102,105,108,101,95,95]⟩⟩
def t176 : Str := ⟨⟨[95,95,99,97,99,104,101,100,95,95]⟩⟩
def t177 : Str := ⟨⟨[103,99,100]⟩⟩
def t178 : Str := ⟨⟨[47,99,108,97,105,109,47,99,117,116,46,112,121]⟩⟩
def t179 : Str := ⟨⟨[60,109,111,100,117,108,101,62]⟩⟩
def t180 : Str := ⟨⟨[97,99,111,115]⟩⟩
def t181 : Str := ⟨⟨[97,99,111,115,104]⟩⟩
def t182 : Str := ⟨⟨[97,115,105,110]⟩⟩
def t183 : Str := ⟨⟨[97,115,105,110,104]⟩⟩
def t184 : Str := ⟨⟨[97,116,97,110]⟩⟩
def t185 : Str := ⟨⟨[97,116,97,110,50]⟩⟩
def t186 : Str := ⟨⟨[97,116,97,110,104]⟩⟩
def t187 : Str := ⟨⟨[99,98,114,116]⟩⟩
def t188 : Str := ⟨⟨[99,101,105,108]⟩⟩
def t189 : Str := ⟨⟨[99,111,112,121,115,105,103,110]⟩⟩
def t190 : Str := ⟨⟨[99,111,115]⟩⟩
def t191 : Str := ⟨⟨[99,111,115,104]⟩⟩
def t192 : Str := ⟨⟨[100,101,103,114,101,101,115]⟩⟩
def t193 : Str := ⟨⟨[100,105,115,116]⟩⟩
def t194 : Str := ⟨⟨[101,114,102]⟩⟩
def t195 : Str := ⟨⟨[101,114,102,99]⟩⟩
def t196 : Str := ⟨⟨[101,120,112]⟩⟩
def t197 : Str := ⟨⟨[101,120,112,50]⟩⟩
def t198 : Str := ⟨⟨[101,120,112,109,49]⟩⟩
def t199 : Str := ⟨⟨[102,97,98,115]⟩⟩
def t200 : Str := ⟨⟨[102,97,99,116,111,114,105,97,108]⟩⟩
def t201 : Str := ⟨⟨[102,108,111,111,114]⟩⟩
def t202 : Str := ⟨⟨[102,109,97]⟩⟩
def t203 : Str := ⟨⟨[102,109,111,100]⟩⟩
def t204 : Str := ⟨⟨[102,114,101,120,112]⟩⟩
def t205 : Str := ⟨⟨[102,115,117,109]⟩⟩
def t206 : Str := ⟨⟨[103,97,109,109,97]⟩⟩
def t207 : Str := ⟨⟨[104,121,112,111,116]⟩⟩
def t208 : Str := ⟨⟨[105,115,99,108,111,115,101]⟩⟩
def t209 : Str := ⟨⟨[105,115,102,105,110,105,116,101]⟩⟩
def t210 : Str := ⟨⟨[105,115,105,110,102]⟩⟩
def t211 : Str := ⟨⟨[105,115,110,97,110]⟩⟩
def t212 : Str := ⟨⟨[105,115,113,114,116]⟩⟩
def t213 : Str := ⟨⟨[108,99,109]⟩⟩
def t214 : Str := ⟨⟨[108,100,101,120,112]⟩⟩
def t215 : Str := ⟨⟨[108,103,97,109,109,97]⟩⟩
def t216 : Str := ⟨⟨[108,111,103]⟩⟩
def t217 : Str := ⟨⟨[108,111,103,49,112]⟩⟩
def t218 : Str := ⟨⟨[108,111,103,49,48]⟩⟩
def t219 : Str := ⟨⟨[108,111,103,50]⟩⟩
def t220 : Str := ⟨⟨[109,111,100,102]⟩⟩
def t221 : Str := ⟨⟨[114,97,100,105,97,110,115]⟩⟩
def t222 : Str := ⟨⟨[114,101,109,97,105,110,100,101,114]⟩⟩
def t223 : Str := ⟨⟨[115,105,110]⟩⟩
def t224 : Str := ⟨⟨[115,105,110,104]⟩⟩
def t225 : Str := ⟨⟨[115,113,114,116]⟩⟩
def t226 : Str := ⟨⟨[116,97,110]⟩⟩
def t227 : Str := ⟨⟨[116,97,110,104]⟩⟩
def t228 : Str := ⟨⟨[115,117,109,112,114,111,100]⟩⟩
def t229 : Str := ⟨⟨[116,114,117,110,99]⟩⟩
def t230 : Str := ⟨⟨[112,114,111,100]⟩⟩
def t231 : Str := ⟨⟨[112,101,114,109]⟩⟩
def t232 : Str := ⟨⟨[99,111,109,98]⟩⟩
def t233 : Str := ⟨⟨[110,101,120,116,97,102,116,101,114]⟩⟩
def t234 : Str := ⟨⟨[117,108,112]⟩⟩
def t235 : Str := ⟨⟨[112,105]⟩⟩
def t236 : Str := ⟨⟨[101]⟩⟩
def t237 : Str := ⟨⟨[116,97,117]⟩⟩
def t238 : Str := ⟨⟨[105,110,102]⟩⟩
def t239 : Str := ⟨⟨[110,97,110]⟩⟩
def t240 : Str := ⟨⟨[]⟩⟩
def t241 : Str := ⟨⟨[47,110,105,120,47,115,116,111,114,101,47,119,106,49,102,53,54,113,107,121,52,112,109,106,99,55,108,48,114,54,98,54,108,55,119,104,110,110,119,55,104,112,54,45,112,121,116,104,111,110,51,45,51,46,49,51,46,49,53,47,108,105,98,47,112,121,116,104,111,110,51,46,49,51,47,108,105,98,45,100,121,110,108,111,97,100,47,109,97,116,104,46,99,112,121,116,104,111,110,45,51,49,51,45,120,56,54,95,54,52,45,108,105,110,117,120,45,103,110,117,46,115,111]⟩⟩
def t242 : Str := ⟨⟨[110,97,109,101]⟩⟩
def t243 : Str := ⟨⟨[112,97,116,104]⟩⟩
def t244 : Str := ⟨⟨[95,95,109,111,100,117,108,101,95,95]⟩⟩
def t245 : Str := ⟨⟨[95,95,102,105,114,115,116,108,105,110,101,110,111,95,95]⟩⟩
def t246 : Str := ⟨⟨[105,115,95,112,97,99,107,97,103,101]⟩⟩
def t247 : Str := ⟨⟨[99,114,101,97,116,101,95,109,111,100,117,108,101]⟩⟩
def t248 : Str := ⟨⟨[101,120,101,99,95,109,111,100,117,108,101]⟩⟩
def t249 : Str := ⟨⟨[108,111,97,100,95,109,111,100,117,108,101]⟩⟩
def t250 : Str := ⟨⟨[95,95,115,116,97,116,105,99,95,97,116,116,114,105,98,117,116,101,115,95,95]⟩⟩
def t251 : Str := ⟨⟨[95,95,100,105,99,116,95,95]⟩⟩
def t252 : Str := ⟨⟨[95,95,119,101,97,107,114,101,102,95,95]⟩⟩
def t253 : Str := ⟨⟨[95,102,114,111,122,101,110,95,105,109,112,111,114,116,108,105,98,95,101,120,116,101,114,110,97,108]⟩⟩
def t254 : Str := ⟨⟨[95,76,111,97,100,101,114,66,97,115,105,99,115]⟩⟩
def t255 : Str := ⟨⟨[6,193,10,95,95,109,111,100,117,108,101,95,95,6,191,26,95,102,114,111,122,101,110,95,105,109,112,111,114,116,108,105,98,95,101,120,116,101,114,110,97,108,6,194,15,95,95,102,105,114,115,116,108,105,110,101,110,111,95,95,4,192,0,1001,6,195,7,95,95,100,111,99,95,95,9,59,95,102,114,111,122,101,110,95,105,109,112,111,114,116,108,105,98,95,101,120,116,101,114,110,97,108,46,95,76,111,97,100,101,114,66,97,115,105,99,115,46,95,95,100,111,99,95,95,58,115,116,114,35,111,112,97,113,117,101,6,196,10,105,115,95,112,97,99,107,97,103,101,9,58,95,102,114,111,122,101,110,95,105,109,112,111,114,116,108,105,98,95,101,120,116,101,114,110,97,108,46,95,76,111,97,100,101,114,66,97,115,105,99,115,46,105,115,95,112,97,99,107,97,103,101,35,111,112,97,113,117,101,6,197,13,99,114,101,97,116,101,95,109,111,100,117,108,101,9,61,95,102,114,111,122,101,110,95,105,109,112,111,114,116,108,105,98,95,101,120,116,101,114,110,97,108,46,95,76,111,97,100,101,114,66,97,115,105,99,115,46,99,114,101,97,116,101,95,109,111,100,117,108,101,35,111,112,97,113,117,101,6,198,11,101,120,101,99,95,109,111,100,117,108,101,9,59,95,102,114,111,122,101,110,95,105,109,112,111,114,116,108,105,98,95,101,120,116,101,114,110,97,108,46,95,76,111,97,100,101,114,66,97,115,105,99,115,46,101,120,101,99,95,109,111,100,117,108,101,35,111,112,97,113,117,101,6,199,11,108,111,97,100,95,109,111,100,117,108,101,9,59,95,102,114,111,122,101,110,95,105,109,112,111,114,116,108,105,98,95,101,120,116,101,114,110,97,108,46,95,76,111,97,100,101,114,66,97,115,105,99,115,46,108,111,97,100,95,109,111,100,117,108,101,35,111,112,97,113,117,101,6,200,21,95,95,115,116,97,116,105,99,95,97,116,116,114,105,98,117,116,101,115,95,95,4,0,0,17,6,202,8,95,95,100,105,99,116,95,95,4,0,0,18,6,204,11,95,95,119,101,97,107,114,101,102,95,95,4,0,0,19]⟩⟩
def t256 : Str := ⟨⟨[6,212,10,95,95,109,111,100,117,108,101,95,95,6,208,26,95,102,114,111,122,101,110,95,105,109,112,111,114,116,108,105,98,95,101,120,116,101,114,110,97,108,6,213,15,95,95,102,105,114,115,116,108,105,110,101,110,111,95,95,4,209,0,1176,6,214,7,95,95,100,111,99,95,95,9,56,95,102,114,111,122,101,110,95,105,109,112,111,114,116,108,105,98,95,101,120,116,101,114,110,97,108,46,70,105,108,101,76,111,97,100,101,114,46,95,95,100,111,99,95,95,58,115,116,114,35,111,112,97,113,117,101,6,215,8,95,95,105,110,105,116,95,95,9,53,95,102,114,111,122,101,110,95,105,109,112,111,114,116,108,105,98,95,101,120,116,101,114,110,97,108,46,70,105,108,101,76,111,97,100,101,114,46,95,95,105,110,105,116,95,95,35,111,112,97,113,117,101,6,216,6,95,95,101,113,95,95,9,51,95,102,114,111,122,101,110,95,105,109,112,111,114,116,108,105,98,95,101,120,116,101,114,110,97,108,46,70,105,108,101,76,111,97,100,101,114,46,95,95,101,113,95,95,35,111,112,97,113,117,101,6,217,8,95,95,104,97,115,104,95,95,9,53,95,102,114,111,122,101,110,95,105,109,112,111,114,116,108,105,98,95,101,120,116,101,114,110,97,108,46,70,105,108,101,76,111,97,100,101,114,46,95,95,104,97,115,104,95,95,35,111,112,97,113,117,101,6,218,11,108,111,97,100,95,109,111,100,117,108,101,9,56,95,102,114,111,122,101,110,95,105,109,112,111,114,116,108,105,98,95,101,120,116,101,114,110,97,108,46,70,105,108,101,76,111,97,100,101,114,46,108,111,97,100,95,109,111,100,117,108,101,35,111,112,97,113,117,101,6,219,12,103,101,116,95,102,105,108,101,110,97,109,101,9,57,95,102,114,111,122,101,110,95,105,109,112,111,114,116,108,105,98,95,101,120,116,101,114,110,97,108,46,70,105,108,101,76,111,97,100,101,114,46,103,101,116,95,102,105,108,101,110,97,109,101,35,111,112,97,113,117,101,6,220,8,103,101,116,95,100,97,116,97,9,53,95,102,114,111,122,101,110,95,105,109,112,111,114,116,108,105,98,95,101,120,116,101,114,110,97,108,46,70,105,108,101,76,111,97,100,101,114,46,103,101,116,95,100,97,116,97,35,111,112,97,113,117,101,6,221,19,103,101,116,95,114,101,115,111,117,114,99,101,95,114,101,97,100,101,114,9,64,95,102,114,111,122,101,110,95,105,109,112,111,114,116,108,105,98,95,101,120,116,101,114,110,97,108,46,70,105,108,101,76,111,97,100,101,114,46,103,101,116,95,114,101,115,111,117,114,99,101,95,114,101,97,100,101,114,35,111,112,97,113,117,101,6,222,21,95,95,115,116,97,116,105,99,95,97,116,116,114,105,98,117,116,101,115,95,95,4,0,0,23,6,224,8,95,95,100,105,99,116,95,95,4,0,0,24,6,226,11,95,95,119,101,97,107,114,101,102,95,95,4,0,0,25]⟩⟩
def t257 : Str := ⟨⟨[6,233,10,95,95,109,111,100,117,108,101,95,95,6,229,26,95,102,114,111,122,101,110,95,105,109,112,111,114,116,108,105,98,95,101,120,116,101,114,110,97,108,6,234,15,95,95,102,105,114,115,116,108,105,110,101,110,111,95,95,4,230,0,1296,6,235,7,95,95,100,111,99,95,95,9,65,95,102,114,111,122,101,110,95,105,109,112,111,114,116,108,105,98,95,101,120,116,101,114,110,97,108,46,69,120,116,101,110,115,105,111,110,70,105,108,101,76,111,97,100,101,114,46,95,95,100,111,99,95,95,58,115,116,114,35,111,112,97,113,117,101,6,236,8,95,95,105,110,105,116,95,95,9,62,95,102,114,111,122,101,110,95,105,109,112,111,114,116,108,105,98,95,101,120,116,101,114,110,97,108,46,69,120,116,101,110,115,105,111,110,70,105,108,101,76,111,97,100,101,114,46,95,95,105,110,105,116,95,95,35,111,112,97,113,117,101,6,237,6,95,95,101,113,95,95,9,60,95,102,114,111,122,101,110,95,105,109,112,111,114,116,108,105,98,95,101,120,116,101,114,110,97,108,46,69,120,116,101,110,115,105,111,110,70,105,108,101,76,111,97,100,101,114,46,95,95,101,113,95,95,35,111,112,97,113,117,101,6,238,8,95,95,104,97,115,104,95,95,9,62,95,102,114,111,122,101,110,95,105,109,112,111,114,116,108,105,98,95,101,120,116,101,114,110,97,108,46,69,120,116,101,110,115,105,111,110,70,105,108,101,76,111,97,100,101,114,46,95,95,104,97,115,104,95,95,35,111,112,97,113,117,101,6,239,13,99,114,101,97,116,101,95,109,111,100,117,108,101,9,67,95,102,114,111,122,101,110,95,105,109,112,111,114,116,108,105,98,95,101,120,116,101,114,110,97,108,46,69,120,116,101,110,115,105,111,110,70,105,108,101,76,111,97,100,101,114,46,99,114,101,97,116,101,95,109,111,100,117,108,101,35,111,112,97,113,117,101,6,240,11,101,120,101,99,95,109,111,100,117,108,101,9,65,95,102,114,111,122,101,110,95,105,109,112,111,114,116,108,105,98,95,101,120,116,101,114,110,97,108,46,69,120,116,101,110,115,105,111,110,70,105,108,101,76,111,97,100,101,114,46,101,120,101,99,95,109,111,100,117,108,101,35,111,112,97,113,117,101,6,241,10,105,115,95,112,97,99,107,97,103,101,9,64,95,102,114,111,122,101,110,95,105,109,112,111,114,116,108,105,98,95,101,120,116,101,114,110,97,108,46,69,120,116,101,110,115,105,111,110,70,105,108,101,76,111,97,100,101,114,46,105,115,95,112,97,99,107,97,103,101,35,111,112,97,113,117,101,6,242,8,103,101,116,95,99,111,100,101,9,62,95,102,114,111,122,101,110,95,105,109,112,111,114,116,108,105,98,95,101,120,116,101,114,110,97,108,46,69,120,116,101,110,115,105,111,110,70,105,108,101,76,111,97,100,101,114,46,103,101,116,95,99,111,100,101,35,111,112,97,113,117,101,6,243,10,103,101,116,95,115,111,117,114,99,101,9,64,95,102,114,111,122,101,110,95,105,109,112,111,114,116,108,105,98,95,101,120,116,101,114,110,97,108,46,69,120,116,101,110,115,105,111,110,70,105,108,101,76,111,97,100,101,114,46,103,101,116,95,115,111,117,114,99,101,35,111,112,97,113,117,101,6,244,12,103,101,116,95,102,105,108,101,110,97,109,101,9,66,95,102,114,111,122,101,110,95,105,109,112,111,114,116,108,105,98,95,101,120,116,101,114,110,97,108,46,69,120,116,101,110,115,105,111,110,70,105,108,101,76,111,97,100,101,114,46,103,101,116,95,102,105,108,101,110,97,109,101,35,111,112,97,113,117,101,6,245,21,95,95,115,116,97,116,105,99,95,97,116,116,114,105,98,117,116,101,115,95,95,4,0,0,28]⟩⟩
def t258 : Str := ⟨⟨[6,267,10,95,95,109,111,100,117,108,101,95,95,6,257,17,95,102,114,111,122,101,110,95,105,109,112,111,114,116,108,105,98,6,268,15,95,95,102,105,114,115,116,108,105,110,101,110,111,95,95,4,258,0,562,6,269,7,95,95,100,111,99,95,95,9,47,95,102,114,111,122,101,110,95,105,109,112,111,114,116,108,105,98,46,77,111,100,117,108,101,83,112,101,99,46,95,95,100,111,99,95,95,58,115,116,114,35,111,112,97,113,117,101,6,270,8,95,95,105,110,105,116,95,95,9,44,95,102,114,111,122,101,110,95,105,109,112,111,114,116,108,105,98,46,77,111,100,117,108,101,83,112,101,99,46,95,95,105,110,105,116,95,95,35,111,112,97,113,117,101,6,271,8,95,95,114,101,112,114,95,95,9,44,95,102,114,111,122,101,110,95,105,109,112,111,114,116,108,105,98,46,77,111,100,117,108,101,83,112,101,99,46,95,95,114,101,112,114,95,95,35,111,112,97,113,117,101,6,272,6,95,95,101,113,95,95,9,42,95,102,114,111,122,101,110,95,105,109,112,111,114,116,108,105,98,46,77,111,100,117,108,101,83,112,101,99,46,95,95,101,113,95,95,35,111,112,97,113,117,101,6,273,6,99,97,99,104,101,100,9,42,95,102,114,111,122,101,110,95,105,109,112,111,114,116,108,105,98,46,77,111,100,117,108,101,83,112,101,99,46,99,97,99,104,101,100,35,111,112,97,113,117,101,6,274,6,112,97,114,101,110,116,9,42,95,102,114,111,122,101,110,95,105,109,112,111,114,116,108,105,98,46,77,111,100,117,108,101,83,112,101,99,46,112,97,114,101,110,116,35,111,112,97,113,117,101,6,275,12,104,97,115,95,108,111,99,97,116,105,111,110,9,48,95,102,114,111,122,101,110,95,105,109,112,111,114,116,108,105,98,46,77,111,100,117,108,101,83,112,101,99,46,104,97,115,95,108,111,99,97,116,105,111,110,35,111,112,97,113,117,101,6,276,21,95,95,115,116,97,116,105,99,95,97,116,116,114,105,98,117,116,101,115,95,95,4,0,0,34,6,278,8,95,95,100,105,99,116,95,95,4,0,0,35,6,280,11,95,95,119,101,97,107,114,101,102,95,95,4,0,0,36,6,281,8,95,95,104,97,115,104,95,95,0]⟩⟩
def t259 : Str := ⟨⟨[95,95,105,110,105,116,95,95]⟩⟩
def t260 : Str := ⟨⟨[95,95,101,113,95,95]⟩⟩
def t261 : Str := ⟨⟨[95,95,104,97,115,104,95,95]⟩⟩
def t262 : Str := ⟨⟨[103,101,116,95,102,105,108,101,110,97,109,101]⟩⟩
def t263 : Str := ⟨⟨[103,101,116,95,100,97,116,97]⟩⟩
def t264 : Str := ⟨⟨[103,101,116,95,114,101,115,111,117,114,99,101,95,114,101,97,100,101,114]⟩⟩
def t265 : Str := ⟨⟨[70,105,108,101,76,111,97,100,101,114]⟩⟩
def t266 : Str := ⟨⟨[103,101,116,95,99,111,100,101]⟩⟩
def t267 : Str := ⟨⟨[103,101,116,95,115,111,117,114,99,101]⟩⟩
def t268 : Str := ⟨⟨[69,120,116,101,110,115,105,111,110,70,105,108,101,76,111,97,100,101,114]⟩⟩
def t269 : Str := ⟨⟨[108,111,97,100,101,114]⟩⟩
def t270 : Str := ⟨⟨[111,114,105,103,105,110]⟩⟩
def t271 : Str := ⟨⟨[108,111,97,100,101,114,95,115,116,97,116,101]⟩⟩
def t272 : Str := ⟨⟨[115,117,98,109,111,100,117,108,101,95,115,101,97,114,99,104,95,108,111,99,97,116,105,111,110,115]⟩⟩
def t273 : Str := ⟨⟨[95,117,110,105,110,105,116,105,97,108,105,122,101,100,95,115,117,98,109,111,100,117,108,101,115]⟩⟩
def t274 : Str := ⟨⟨[95,115,101,116,95,102,105,108,101,97,116,116,114]⟩⟩
def t275 : Str := ⟨⟨[95,99,97,99,104,101,100]⟩⟩
def t276 : Str := ⟨⟨[95,105,110,105,116,105,97,108,105,122,105,110,103]⟩⟩
def t277 : Str := ⟨⟨[95,95,114,101,112,114,95,95]⟩⟩
def t278 : Str := ⟨⟨[99,97,99,104,101,100]⟩⟩
def t279 : Str := ⟨⟨[112,97,114,101,110,116]⟩⟩
def t280 : Str := ⟨⟨[104,97,115,95,108,111,99,97,116,105,111,110]⟩⟩
def t281 : Str := ⟨⟨[95,102,114,111,122,101,110,95,105,109,112,111,114,116,108,105,98]⟩⟩
def t282 : Str := ⟨⟨[77,111,100,117,108,101,83,112,101,99]⟩⟩
def t283 : Str := ⟨⟨[6,287,8,95,95,110,97,109,101,95,95,6,286,4,109,97,116,104,6,288,7,95,95,100,111,99,95,95,9,23,109,97,116,104,46,95,95,100,111,99,95,95,58,115,116,114,35,111,112,97,113,117,101,6,290,11,95,95,112,97,99,107,97,103,101,95,95,6,289,0,6,291,10,95,95,108,111,97,100,101,114,95,95,4,0,0,29,6,292,8,95,95,115,112,101,99,95,95,4,0,0,37,6,293,4,97,99,111,115,9,9,109,97,116,104,46,97,99,111,115,6,294,5,97,99,111,115,104,9,10,109,97,116,104,46,97,99,111,115,104,6,295,4,97,115,105,110,9,9,109,97,116,104,46,97,115,105,110,6,296,5,97,115,105,110,104,9,10,109,97,116,104,46,97,115,105,110,104,6,297,4,97,116,97,110,9,9,109,97,116,104,46,97,116,97,110,6,298,5,97,116,97,110,50,9,10,109,97,116,104,46,97,116,97,110,50,6,299,5,97,116,97,110,104,9,10,109,97,116,104,46,97,116,97,110,104,6,300,4,99,98,114,116,9,9,109,97,116,104,46,99,98,114,116,6,301,4,99,101,105,108,9,9,109,97,116,104,46,99,101,105,108,6,302,8,99,111,112,121,115,105,103,110,9,13,109,97,116,104,46,99,111,112,121,115,105,103,110,6,303,3,99,111,115,9,8,109,97,116,104,46,99,111,115,6,304,4,99,111,115,104,9,9,109,97,116,104,46,99,111,115,104,6,305,7,100,101,103,114,101,101,115,9,12,109,97,116,104,46,100,101,103,114,101,101,115,6,306,4,100,105,115,116,9,9,109,97,116,104,46,100,105,115,116,6,307,3,101,114,102,9,8,109,97,116,104,46,101,114,102,6,308,4,101,114,102,99,9,9,109,97,116,104,46,101,114,102,99,6,309,3,101,120,112,9,8,109,97,116,104,46,101,120,112,6,310,4,101,120,112,50,9,9,109,97,116,104,46,101,120,112,50,6,311,5,101,120,112,109,49,9,10,109,97,116,104,46,101,120,112,109,49,6,312,4,102,97,98,115,9,9,109,97,116,104,46,102,97,98,115,6,313,9,102,97,99,116,111,114,105,97,108,9,14,109,97,116,104,46,102,97,99,116,111,114,105,97,108,6,314,5,102,108,111,111,114,9,10,109,97,116,104,46,102,108,111,111,114,6,315,3,102,109,97,9,8,109,97,116,104,46,102,109,97,6,316,4,102,109,111,100,9,9,109,97,116,104,46,102,109,111,100,6,317,5,102,114,101,120,112,9,10,109,97,116,104,46,102,114,101,120,112,6,318,4,102,115,117,109,9,9,109,97,116,104,46,102,115,117,109,6,319,5,103,97,109,109,97,9,10,109,97,116,104,46,103,97,109,109,97,6,320,3,103,99,100,9,8,109,97,116,104,46,103,99,100,6,321,5,104,121,112,111,116,9,10,109,97,116,104,46,104,121,112,111,116,6,322,7,105,115,99,108,111,115,101,9,12,109,97,116,104,46,105,115,99,108,111,115,101,6,323,8,105,115,102,105,110,105,116,101,9,13,109,97,116,104,46,105,115,102,105,110,105,116,101,6,324,5,105,115,105,110,102,9,10,109,97,116,104,46,105,115,105,110,102,6,325,5,105,115,110,97,110,9,10,109,97,116,104,46,105,115,110,97,110,6,326,5,105,115,113,114,116,9,10,109,97,116,104,46,105,115,113,114,116,6,327,3,108,99,109,9,8,109,97,116,104,46,108,99,109,6,328,5,108,100,101,120,112,9,10,109,97,116,104,46,108,100,101,120,112,6,329,6,108,103,97,109,109,97,9,11,109,97,116,104,46,108,103,97,109,109,97,6,330,3,108,111,103,9,8,109,97,116,104,46,108,111,103,6,331,5,108,111,103,49,112,9,10,109,97,116,104,46,108,111,103,49,112,6,332,5,108,111,103,49,48,9,10,109,97,116,104,46,108,111,103,49,48,6,333,4,108,111,103,50,9,9,109,97,116,104,46,108,111,103,50,6,334,4,109,111,100,102,9,9,109,97,116,104,46,109,111,100,102,6,335,3,112,111,119,9,8,109,97,116,104,46,112,111,119,6,336,7,114,97,100,105,97,110,115,9,12,109,97,116,104,46,114,97,100,105,97,110,115,6,337,9,114,101,109,97,105,110,100,101,114,9,14,109,97,116,104,46,114,101,109,97,105,110,100,101,114,6,338,3,115,105,110,9,8,109,97,116,104,46,115,105,110,6,339,4,115,105,110,104,9,9,109,97,116,104,46,115,105,110,104,6,340,4,115,113,114,116,9,9,109,97,116,104,46,115,113,114,116,6,341,3,116,97,110,9,8,109,97,116,104,46,116,97,110,6,342,4,116,97,110,104,9,9,109,97,116,104,46,116,97,110,104,6,343,7,115,117,109,112,114,111,100,9,12,109,97,116,104,46,115,117,109,112,114,111,100,6,344,5,116,114,117,110,99,9,10,109,97,116,104,46,116,114,117,110,99,6,345,4,112,114,111,100,9,9,109,97,116,104,46,112,114,111,100,6,346,4,112,101,114,109,9,9,109,97,116,104,46,112,101,114,109,6,347,4,99,111,109,98,9,9,109,97,116,104,46,99,111,109,98,6,348,9,110,101,120,116,97,102,116,101,114,9,14,109,97,116,104,46,110,101,120,116,97,102,116,101,114,6,349,3,117,108,112,9,8,109,97,116,104,46,117,108,112,6,350,8,95,95,102,105,108,101,95,95,6,186,123,47,110,105,120,47,115,116,111,114,101,47,119,106,49,102,53,54,113,107,121,52,112,109,106,99,55,108,48,114,54,98,54,108,55,119,104,110,110,119,55,104,112,54,45,112,121,116,104,111,110,51,45,51,46,49,51,46,49,53,47,108,105,98,47,112,121,116,104,111,110,51,46,49,51,47,108,105,98,45,100,121,110,108,111,97,100,47,109,97,116,104,46,99,112,121,116,104,111,110,45,51,49,51,45,120,56,54,95,54,52,45,108,105,110,117,120,45,103,110,117,46,115,111,6,352,2,112,105,5,351,4614256656552045848,6,354,1,101,5,353,4613303445314885481,6,356,3,116,97,117,5,355,4618760256179416344,6,358,3,105,110,102,5,357,9218868437227405312,6,360,3,110,97,110,5,359,9221120237041090560]⟩⟩
def t284 : Str := ⟨⟨[67,111,117,110,116,69,114,114,111,114]⟩⟩
def t285 : Str := ⟨⟨[73,110,118,97,108,105,100,78,117,109,98,101,114]⟩⟩
def t286 : Str := ⟨⟨[73,110,118,97,108,105,100,67,111,117,110,116]⟩⟩
def t287 : Str := ⟨⟨[73,110,118,97,108,105,100,71,114,97,109,109,97,114]⟩⟩
def t288 : Str := ⟨⟨[73,110,118,97,108,105,100,77,97,99,104,105,110,101]⟩⟩
def t289 : Str := ⟨⟨[73,110,118,97,108,105,100,80,97,105,114]⟩⟩
def t290 : Str := ⟨⟨[73,110,118,97,108,105,100,86,97,114,105,97,98,108,101,115]⟩⟩
def t291 : Str := ⟨⟨[73,110,118,97,108,105,100,83,97,121,105,110,103]⟩⟩
def t292 : Str := ⟨⟨[73,110,118,97,108,105,100,80,114,105,99,101,115]⟩⟩
def t293 : Str := ⟨⟨[119,104,111,108,101,99,111,117,110,116,115,46,101,114,114,111,114,115]⟩⟩
def t294 : Str := ⟨⟨[95,95,113,117,97,108,110,97,109,101,95,95]⟩⟩
def t295 : Str := ⟨⟨[115,101,108,102]⟩⟩
def t296 : Str := ⟨⟨[118,97,108,117,101]⟩⟩
def t297 : Str := ⟨⟨[67,111,117,110,116,69,114,114,111,114,46,95,95,105,110,105,116,95,95]⟩⟩
def t298 : Str := ⟨⟨[73,110,118,97,108,105,100,65,110,115,119,101,114]⟩⟩
def t299 : Str := ⟨⟨[84,111,111,77,97,110,121]⟩⟩
def t300 : Str := ⟨⟨[73,110,118,97,108,105,100,78,97,109,101]⟩⟩
def t301 : Str := ⟨⟨[85,110,107,110,111,119,110,78,97,109,101]⟩⟩
def t302 : Str := ⟨⟨[78,111,116,104,105,110,103,84,111,85,110,100,111]⟩⟩
def t303 : Str := ⟨⟨[85,110,114,101,97,100,97,98,108,101]⟩⟩
def t304 : Str := ⟨⟨[85,110,111,114,100,101,114,108,121]⟩⟩
def t305 : Str := ⟨⟨[105,115,95,105,110,116,101,103,101,114]⟩⟩
def t306 : Str := ⟨⟨[105,115,95,110,97,116,117,114,97,108]⟩⟩
def t307 : Str := ⟨⟨[105,115,95,98,101,116,119,101,101,110]⟩⟩
def t308 : Str := ⟨⟨[97,114,101,95,105,110,116,101,103,101,114,115]⟩⟩
def t309 : Str := ⟨⟨[97,114,101,95,110,97,116,117,114,97,108,115]⟩⟩
def t310 : Str := ⟨⟨[105,115,95,97,115,99,101,110,100,105,110,103]⟩⟩
def t311 : Str := ⟨⟨[105,115,95,114,117,108,101]⟩⟩
def t312 : Str := ⟨⟨[105,115,95,103,114,97,109,109,97,114]⟩⟩
def t313 : Str := ⟨⟨[99,104,101,99,107,95,103,114,97,109,109,97,114]⟩⟩
def t314 : Str := ⟨⟨[99,104,101,99,107,95,99,111,117,110,116]⟩⟩
def t315 : Str := ⟨⟨[104,97,115,95,111,110,108,121]⟩⟩
def t316 : Str := ⟨⟨[99,108,111,115,105,110,103]⟩⟩
def t317 : Str := ⟨⟨[117,115,101,102,117,108]⟩⟩
def t318 : Str := ⟨⟨[119,104,111,108,101,99,111,117,110,116,115,46,103,114,97,109,109,97,114,115]⟩⟩
def t319 : Str := ⟨⟨[119,104,111,108,101,99,111,117,110,116,115,46,102,114,101,115,104]⟩⟩
def t320 : Str := ⟨⟨[108,111,119]⟩⟩
def t321 : Str := ⟨⟨[104,105,103,104]⟩⟩
def t322 : Str := ⟨⟨[115,105,122,101]⟩⟩
def t323 : Str := ⟨⟨[105,116,101,109,115]⟩⟩
def t324 : Str := ⟨⟨[107]⟩⟩
def t325 : Str := ⟨⟨[110]⟩⟩
def t326 : Str := ⟨⟨[115,116,97,114,116]⟩⟩
def t327 : Str := ⟨⟨[114,117,108,101,115]⟩⟩
def t328 : Str := ⟨⟨[103,114,97,109,109,97,114]⟩⟩
def t329 : Str := ⟨⟨[99,111,117,110,116]⟩⟩
def t330 : Str := ⟨⟨[98,97,103]⟩⟩
def t331 : Str := ⟨⟨[110,97,109,101,115]⟩⟩
def t332 : Str := ⟨⟨[102,111,117,110,100]⟩⟩
def t333 : Str := ⟨⟨[109,111,114,101]⟩⟩
def t334 : Str := ⟨⟨[95]⟩⟩
def t335 : Str := ⟨⟨[111,110,101,95,110,97,109,101]⟩⟩
def t336 : Str := ⟨⟨[119,105,116,104,95,115,116,97,114,116]⟩⟩
def t337 : Str := ⟨⟨[77,79,83,84]⟩⟩
def t338 : Str := ⟨⟨[99,104,101,99,107,95,109,111,115,116]⟩⟩
def t339 : Str := ⟨⟨[99,104,101,99,107,95,109,97,99,104,105,110,101,95,115,105,122,101]⟩⟩
def t340 : Str := ⟨⟨[112,108,117,115]⟩⟩
def t341 : Str := ⟨⟨[115,99,97,108,101,100]⟩⟩
def t342 : Str := ⟨⟨[105,115,95,98,101,108,111,119]⟩⟩
def t343 : Str := ⟨⟨[115,117,109,95,107,101,121]⟩⟩
def t344 : Str := ⟨⟨[110,117,109,98,101,114,101,100]⟩⟩
def t345 : Str := ⟨⟨[108,101,100,95,98,97,99,107]⟩⟩
def t346 : Str := ⟨⟨[108,101,116,116,101,114,95,111,102]⟩⟩
def t347 : Str := ⟨⟨[100,105,103,105,116,115,95,111,102]⟩⟩
def t348 : Str := ⟨⟨[119,111,114,100,95,105,110]⟩⟩
def t349 : Str := ⟨⟨[110,111,116,104,105,110,103]⟩⟩
def t350 : Str := ⟨⟨[115,111,114,116,101,100,95,111,117,116]⟩⟩
def t351 : Str := ⟨⟨[108,101,97,115,116,95,111,102]⟩⟩
def t352 : Str := ⟨⟨[109,97,99,104,105,110,101,95,102,114,111,109]⟩⟩
def t353 : Str := ⟨⟨[116,97,107,101,115,95,105,110]⟩⟩
def t354 : Str := ⟨⟨[102,105,114,115,116,95,105,110]⟩⟩
def t355 : Str := ⟨⟨[117,110,108,105,107,101,95,105,110]⟩⟩
def t356 : Str := ⟨⟨[116,117,114,110,101,100]⟩⟩
def t357 : Str := ⟨⟨[98,111,116,104,95,105,110]⟩⟩
def t358 : Str := ⟨⟨[101,105,116,104,101,114,95,105,110]⟩⟩
def t359 : Str := ⟨⟨[108,101,116,116,101,114,95,109,97,112]⟩⟩
def t360 : Str := ⟨⟨[97,114,114,97,110,103,101,100,95,105,110]⟩⟩
def t361 : Str := ⟨⟨[112,117,116,95,105,110]⟩⟩
def t362 : Str := ⟨⟨[115,111,109,101,95,105,110]⟩⟩
def t363 : Str := ⟨⟨[101,118,101,114,121,95,105,110]⟩⟩
def t364 : Str := ⟨⟨[108,101,116,116,101,114,115,95,109,97,100,101]⟩⟩
def t365 : Str := ⟨⟨[108,101,102,116,95,111,112,101,110]⟩⟩
def t366 : Str := ⟨⟨[104,97,115,95,114,111,97,100,115]⟩⟩
def t367 : Str := ⟨⟨[104,97,108,118,101,100]⟩⟩
def t368 : Str := ⟨⟨[109,111,118,101,100,95,105,110]⟩⟩
def t369 : Str := ⟨⟨[115,116,101,112,112,101,100,95,105,110]⟩⟩
def t370 : Str := ⟨⟨[111,110,108,121,95,122,101,114,111]⟩⟩
def t371 : Str := ⟨⟨[112,114,111,100,117,99,116]⟩⟩
def t372 : Str := ⟨⟨[111,110,101,95,109,111,114,101]⟩⟩
def t373 : Str := ⟨⟨[108,101,97,115,116,95,111,102,95,99,111,108,117,109,110,115]⟩⟩
def t374 : Str := ⟨⟨[108,101,97,115,116,95,105,110]⟩⟩
def t375 : Str := ⟨⟨[115,112,114,101,97,100,95,114,111,119]⟩⟩
def t376 : Str := ⟨⟨[109,97,116,114,105,120,95,111,102]⟩⟩
def t377 : Str := ⟨⟨[114,111,117,110,100,95,108,105,115,116]⟩⟩
def t378 : Str := ⟨⟨[108,101,97,115,116,95,108,105,115,116]⟩⟩
def t379 : Str := ⟨⟨[116,114,117,116,104,115,95,111,102]⟩⟩
def t380 : Str := ⟨⟨[114,117,108,101,115,95,119,105,116,104,105,110]⟩⟩
def t381 : Str := ⟨⟨[108,101,97,100,105,110,103,95,115,101,116,115]⟩⟩
def t382 : Str := ⟨⟨[114,101,97,99,104,101,115,95,97,108,108]⟩⟩
def t383 : Str := ⟨⟨[110,97,109,101,95,115,101,116,115]⟩⟩
def t384 : Str := ⟨⟨[102,97,109,105,108,105,101,115,95,111,102,95,114,111,119,115]⟩⟩
def t385 : Str := ⟨⟨[115,116,101,112,112,105,110,103]⟩⟩
def t386 : Str := ⟨⟨[99,111,117,110,116,115,95,105,110]⟩⟩
def t387 : Str := ⟨⟨[104,111,119,95,111,102,116,101,110]⟩⟩
def t388 : Str := ⟨⟨[114,111,119,95,105,110]⟩⟩
def t389 : Str := ⟨⟨[114,111,119,95,102,111,114]⟩⟩
def t390 : Str := ⟨⟨[111,119,110,95,102,97,109,105,108,121]⟩⟩
def t391 : Str := ⟨⟨[99,104,101,99,107,95,102,97,109,105,108,121,95,115,105,122,101,115]⟩⟩
def t392 : Str := ⟨⟨[107,110,111,119,110,95,99,111,117,110,116,115]⟩⟩
def t393 : Str := ⟨⟨[99,104,101,99,107,95,116,119,111]⟩⟩
def t394 : Str := ⟨⟨[119,104,111,108,101,99,111,117,110,116,115,46,99,111,109,112,97,114,101,115]⟩⟩
def t395 : Str := ⟨⟨[109,111,115,116]⟩⟩
def t396 : Str := ⟨⟨[119,104,111,108,101,99,111,117,110,116,115,46,108,105,109,105,116,115]⟩⟩
def t397 : Str := ⟨⟨[109,97,99,104,105,110,101]⟩⟩
def t398 : Str := ⟨⟨[119,104,111,108,101,99,111,117,110,116,115,46,98,97,103,115]⟩⟩
def t399 : Str := ⟨⟨[111,110,101]⟩⟩
def t400 : Str := ⟨⟨[111,116,104,101,114]⟩⟩
def t401 : Str := ⟨⟨[108,101,97,100]⟩⟩
def t402 : Str := ⟨⟨[108,101,116,116,101,114,115]⟩⟩
def t403 : Str := ⟨⟨[112,108,97,99,101,115]⟩⟩
def t404 : Str := ⟨⟨[110,111,100,101,115]⟩⟩
def t405 : Str := ⟨⟨[114,111,119,115]⟩⟩
def t406 : Str := ⟨⟨[110,111,100,101]⟩⟩
def t407 : Str := ⟨⟨[114,111,119]⟩⟩
def t408 : Str := ⟨⟨[108,101,116,116,101,114]⟩⟩
def t409 : Str := ⟨⟨[116,104,101,114,101]⟩⟩
def t410 : Str := ⟨⟨[119,104,111,108,101,99,111,117,110,116,115,46,119,97,108,107,115]⟩⟩
def t411 : Str := ⟨⟨[100,105,103,105,116,115]⟩⟩
def t412 : Str := ⟨⟨[100,105,103,105,116]⟩⟩
def t413 : Str := ⟨⟨[119,104,111,108,101,99,111,117,110,116,115,46,119,111,114,100,115]⟩⟩
def t414 : Str := ⟨⟨[119,104,111,108,101,99,111,117,110,116,115,46,109,97,99,104,105,110,101,115]⟩⟩
def t415 : Str := ⟨⟨[115,116,97,116,101]⟩⟩
def t416 : Str := ⟨⟨[119,104,111,108,101,99,111,117,110,116,115,46,106,111,105,110,115]⟩⟩
def t417 : Str := ⟨⟨[111,119,110]⟩⟩
def t418 : Str := ⟨⟨[112,108,97,99,101]⟩⟩
def t419 : Str := ⟨⟨[105]⟩⟩
def t420 : Str := ⟨⟨[98,101,104,105,110,100]⟩⟩
def t421 : Str := ⟨⟨[112,108,97,105,110]⟩⟩
def t422 : Str := ⟨⟨[109,97,110,121]⟩⟩
def t423 : Str := ⟨⟨[114,117,108,101]⟩⟩
def t424 : Str := ⟨⟨[119,104,111,108,101,99,111,117,110,116,115,46,114,111,119,115]⟩⟩
def t425 : Str := ⟨⟨[99,97,114,114,121]⟩⟩
def t426 : Str := ⟨⟨[108,101,102,116]⟩⟩
def t427 : Str := ⟨⟨[97,100,100]⟩⟩
def t428 : Str := ⟨⟨[108,97,99,107,105,110,103]⟩⟩
def t429 : Str := ⟨⟨[119,104,111,108,101,99,111,117,110,116,115,46,115,117,109,115]⟩⟩
def t430 : Str := ⟨⟨[101,110,100,115]⟩⟩
def t431 : Str := ⟨⟨[122,101,114,111,115]⟩⟩
def t432 : Str := ⟨⟨[115,116,101,112]⟩⟩
def t433 : Str := ⟨⟨[105,115,95,101,110,100]⟩⟩
def t434 : Str := ⟨⟨[119,104,111,108,101,99,111,117,110,116,115,46,108,101,97,115,116,115]⟩⟩
def t435 : Str := ⟨⟨[119,104,111,108,101,99,111,117,110,116,115,46,117,115,101,115]⟩⟩
def t436 : Str := ⟨⟨[119,104,111,108,101,99,111,117,110,116,115,46,108,111,116,115]⟩⟩
def t437 : Str := ⟨⟨[116,117,114,110,115]⟩⟩
def t438 : Str := ⟨⟨[108,101,97,115,116]⟩⟩
def t439 : Str := ⟨⟨[99,104,111,115,101,110]⟩⟩
def t440 : Str := ⟨⟨[115,116,101,112,115]⟩⟩
def t441 : Str := ⟨⟨[116,111,108,100]⟩⟩
def t442 : Str := ⟨⟨[109,97,99,104,105,110,101,115]⟩⟩
def t443 : Str := ⟨⟨[97,116]⟩⟩
def t444 : Str := ⟨⟨[116,117,114,110]⟩⟩
def t445 : Str := ⟨⟨[99,108,111,115,101,115]⟩⟩
def t446 : Str := ⟨⟨[119,104,111,108,101,99,111,117,110,116,115,46,102,97,109,105,108,105,101,115]⟩⟩
def t447 : Str := ⟨⟨[102,97,109,105,108,121]⟩⟩
def t448 : Str := ⟨⟨[99,104,101,99,107,95,116,119,111,95,99,111,109,112,97,114,101,115]⟩⟩
def t449 : Str := ⟨⟨[117,110,108,105,107,101]⟩⟩
def t450 : Str := ⟨⟨[99,104,101,99,107,95,97,115,107,101,100]⟩⟩
def t451 : Str := ⟨⟨[99,104,101,99,107,95,97,115,107,101,100,95,99,111,117,110,116,115]⟩⟩
def t452 : Str := ⟨⟨[99,111,117,110,116,115,95,109,97,99,104,105,110,101]⟩⟩
def t453 : Str := ⟨⟨[105,115,95,99,111,117,110,116]⟩⟩
def t454 : Str := ⟨⟨[110,117,109,98,101,114,115,95,98,101,108,111,119]⟩⟩
def t455 : Str := ⟨⟨[99,111,117,110,116,115,95,98,101,108,111,119]⟩⟩
def t456 : Str := ⟨⟨[112,114,105,99,101,95,105,110]⟩⟩
def t457 : Str := ⟨⟨[99,104,101,99,107,95,112,114,105,99,101,115]⟩⟩
def t458 : Str := ⟨⟨[108,105,118,101,95,114,117,108,101,115]⟩⟩
def t459 : Str := ⟨⟨[119,111,114,116,104,95,98,121]⟩⟩
def t460 : Str := ⟨⟨[119,111,114,116,104,95,111,102,95,98,97,103]⟩⟩
def t461 : Str := ⟨⟨[114,111,119,95,98,121]⟩⟩
def t462 : Str := ⟨⟨[98,101,116,116,101,114,101,100]⟩⟩
def t463 : Str := ⟨⟨[108,101,97,115,116,95,119,111,114,116,104,115]⟩⟩
def t464 : Str := ⟨⟨[101,110,100,108,101,115,115,95,112,97,112,101,114]⟩⟩
def t465 : Str := ⟨⟨[108,101,97,115,116,95,112,114,105,99,101,95,105,110]⟩⟩
def t466 : Str := ⟨⟨[108,101,97,115,116,95,112,114,105,99,101]⟩⟩
def t467 : Str := ⟨⟨[83,85,77,83]⟩⟩
def t468 : Str := ⟨⟨[74,79,73,78,69,68]⟩⟩
def t469 : Str := ⟨⟨[84,82,73,69,68]⟩⟩
def t470 : Str := ⟨⟨[105,115,95,97,116,111,109,95,102,111,114,109]⟩⟩
def t471 : Str := ⟨⟨[105,115,95,115,97,121,105,110,103]⟩⟩
def t472 : Str := ⟨⟨[99,104,101,99,107,95,115,97,121,105,110,103]⟩⟩
def t473 : Str := ⟨⟨[105,110,110,101,114,95,112,97,114,116,115]⟩⟩
def t474 : Str := ⟨⟨[105,115,95,97,116,111,109]⟩⟩
def t475 : Str := ⟨⟨[102,114,101,101,95,111,102]⟩⟩
def t476 : Str := ⟨⟨[105,115,95,97,98,111,117,116]⟩⟩
def t477 : Str := ⟨⟨[78,79,78,69]⟩⟩
def t478 : Str := ⟨⟨[66,69,84,87,69,69,78,95,116,101,120,116,115]⟩⟩
def t479 : Str := ⟨⟨[65,72,69,65,68]⟩⟩
def t480 : Str := ⟨⟨[115,104,111,119,95,110,117,109,98,101,114,115]⟩⟩
def t481 : Str := ⟨⟨[115,104,111,119,95,103,114,97,109,109,97,114]⟩⟩
def t482 : Str := ⟨⟨[115,104,111,119,95,115,97,121,105,110,103]⟩⟩
def t483 : Str := ⟨⟨[68,73,71,73,84,83]⟩⟩
def t484 : Str := ⟨⟨[77,79,83,84,95,68,73,71,73,84,83]⟩⟩
def t485 : Str := ⟨⟨[77,79,83,84,95,68,69,80,84,72]⟩⟩
def t486 : Str := ⟨⟨[105,110,116,101,103,101,114,95,111,102]⟩⟩
def t487 : Str := ⟨⟨[105,110,116,101,103,101,114,115,95,111,102]⟩⟩
def t488 : Str := ⟨⟨[110,117,109,98,101,114,115,95,111,102]⟩⟩
def t489 : Str := ⟨⟨[112,105,101,99,101,115,95,111,102]⟩⟩
def t490 : Str := ⟨⟨[115,105,110,103,108,101]⟩⟩
def t491 : Str := ⟨⟨[103,114,97,109,109,97,114,95,105,110]⟩⟩
def t492 : Str := ⟨⟨[100,101,112,116,104,95,111,102]⟩⟩
def t493 : Str := ⟨⟨[101,110,100,101,100]⟩⟩
def t494 : Str := ⟨⟨[97,116,111,109,95,102,114,111,109]⟩⟩
def t495 : Str := ⟨⟨[115,97,121,105,110,103,95,102,114,111,109]⟩⟩
def t496 : Str := ⟨⟨[115,97,121,105,110,103,95,105,110]⟩⟩
def t497 : Str := ⟨⟨[114,101,97,100,95,110,117,109,98,101,114,115]⟩⟩
def t498 : Str := ⟨⟨[114,101,97,100,95,103,114,97,109,109,97,114]⟩⟩
def t499 : Str := ⟨⟨[114,101,97,100,95,115,97,121,105,110,103]⟩⟩
def t500 : Str := ⟨⟨[109,97,100,101]⟩⟩
def t501 : Str := ⟨⟨[105,115,95,108,101,115,115]⟩⟩
def t502 : Str := ⟨⟨[69,78,68,76,69,83,83]⟩⟩
def t503 : Str := ⟨⟨[112,114,105,99,101,100]⟩⟩
def t504 : Str := ⟨⟨[115,104,97,114,101,115,95,119,105,116,104]⟩⟩
def t505 : Str := ⟨⟨[104,105,103,104,101,114]⟩⟩
def t506 : Str := ⟨⟨[103,114,101,97,116,101,115,116,95,105,110]⟩⟩
def t507 : Str := ⟨⟨[99,104,101,99,107,95,116,119,111,95,115,104,97,114,101,115]⟩⟩
def t508 : Str := ⟨⟨[103,114,101,97,116,101,115,116,95,115,104,97,114,101]⟩⟩
def t509 : Str := ⟨⟨[115,117,109,95,109,97,99,104,105,110,101]⟩⟩
def t510 : Str := ⟨⟨[114,101,115,116,95,109,97,99,104,105,110,101]⟩⟩
def t511 : Str := ⟨⟨[119,104,111,108,101,99,111,117,110,116,115,46,97,116,111,109,115]⟩⟩
def t512 : Str := ⟨⟨[45]⟩⟩
def t513 : Str := ⟨⟨[32,58,32]⟩⟩
def t514 : Str := ⟨⟨[32,59,32]⟩⟩
def t515 : Str := ⟨⟨[48,49,50,51,52,53,54,55,56,57]⟩⟩
def t516 : Str := ⟨⟨[119,104,111,108,101,99,111,117,110,116,115,46,99,111,117,110,116,115]⟩⟩
def t517 : Str := ⟨⟨[119,104,111,108,101,99,111,117,110,116,115,46,103,114,111,119,116,104]⟩⟩
def t518 : Str := ⟨⟨[109]⟩⟩
def t519 : Str := ⟨⟨[119,104,111,108,101,99,111,117,110,116,115,46,112,114,105,99,101,115]⟩⟩
def t520 : Str := ⟨⟨[112,114,105,99,101,115]⟩⟩
def t521 : Str := ⟨⟨[119,111,114,116,104,115]⟩⟩
def t522 : Str := ⟨⟨[108,105,118,101]⟩⟩
def t523 : Str := ⟨⟨[102,117,114,116,104,101,114]⟩⟩
def t524 : Str := ⟨⟨[119,111,114,116,104]⟩⟩
def t525 : Str := ⟨⟨[108,101,115,115]⟩⟩
def t526 : Str := ⟨⟨[101,113,117,97,108]⟩⟩
def t527 : Str := ⟨⟨[98,111,116,104]⟩⟩
def t528 : Str := ⟨⟨[101,105,116,104,101,114]⟩⟩
def t529 : Str := ⟨⟨[115,111,109,101]⟩⟩
def t530 : Str := ⟨⟨[101,118,101,114,121]⟩⟩
def t531 : Str := ⟨⟨[119,104,111,108,101,99,111,117,110,116,115,46,115,97,121,105,110,103,115]⟩⟩
def t532 : Str := ⟨⟨[115,97,121,105,110,103]⟩⟩
def t533 : Str := ⟨⟨[119,104,111,108,101,99,111,117,110,116,115,46,116,101,120,116,115]⟩⟩
def t534 : Str := ⟨⟨[116,101,120,116]⟩⟩
def t535 : Str := ⟨⟨[119,104,111,108,101,99,111,117,110,116,115,46,114,101,97,100,101,114,115]⟩⟩
def t536 : Str := ⟨⟨[110,117,109,98,101,114,115]⟩⟩
def t537 : Str := ⟨⟨[100,101,112,116,104]⟩⟩
def t538 : Str := ⟨⟨[115,105,103,110]⟩⟩
def t539 : Str := ⟨⟨[119,111,114,100]⟩⟩
def t540 : Str := ⟨⟨[101,110,100]⟩⟩
def t541 : Str := ⟨⟨[103,97,112]⟩⟩
def t542 : Str := ⟨⟨[112,97,114,116]⟩⟩
def t543 : Str := ⟨⟨[116,111,112]⟩⟩
def t544 : Str := ⟨⟨[98,111,116,116,111,109]⟩⟩
def t545 : Str := ⟨⟨[99,111,109,109,111,110]⟩⟩
def t546 : Str := ⟨⟨[119,104,111,108,101,99,111,117,110,116,115,46,102,114,97,99,116,105,111,110,115]⟩⟩
def t547 : Str := ⟨⟨[101,110,100,108,101,115,115]⟩⟩
def t548 : Str := ⟨⟨[119,104,111,108,101,99,111,117,110,116,115,46,115,104,97,114,101,115]⟩⟩
def t549 : Str := ⟨⟨[98,97,115,101]⟩⟩
def t550 : Str := ⟨⟨[117,110,100,101,114]⟩⟩
def t551 : Str := ⟨⟨[98,101,115,116]⟩⟩
def t552 : Str := ⟨⟨[102,114,101,101]⟩⟩
def t553 : Str := ⟨⟨[108,105,109,105,116]⟩⟩
def t554 : Str := ⟨⟨[109,111,100,117,108,117,115]⟩⟩
def t555 : Str := ⟨⟨[114,101,115,116]⟩⟩
def t556 : Str := ⟨⟨[109,97,99,104,105,110,101,95,111,102,95,97,116,111,109]⟩⟩
def t557 : Str := ⟨⟨[99,104,101,99,107,95,97,98,111,117,116]⟩⟩
def t558 : Str := ⟨⟨[99,104,101,99,107,95,109,101,97,110,105,110,103]⟩⟩
def t559 : Str := ⟨⟨[112,108,97,99,101,100]⟩⟩
def t560 : Str := ⟨⟨[106,111,105,110,101,100,95,112,97,114,116]⟩⟩
def t561 : Str := ⟨⟨[116,114,105,101,100,95,112,97,114,116]⟩⟩
def t562 : Str := ⟨⟨[112,97,114,116,95,109,97,99,104,105,110,101]⟩⟩
def t563 : Str := ⟨⟨[109,101,97,110,105,110,103,95,105,110]⟩⟩
def t564 : Str := ⟨⟨[99,104,101,99,107,95,97,115,107,101,100,95,116,114,117,116,104,115]⟩⟩
def t565 : Str := ⟨⟨[100,101,99,105,100,101,100]⟩⟩
def t566 : Str := ⟨⟨[76,69,84,84,69,82,83]⟩⟩
def t567 : Str := ⟨⟨[77,79,83,84,95,83,73,71,78,83]⟩⟩
def t568 : Str := ⟨⟨[66,69,84,87,69,69,78,95,111,114,100,101,114,115]⟩⟩
def t569 : Str := ⟨⟨[65,76,79,78,69]⟩⟩
def t570 : Str := ⟨⟨[65,82,71,85,77,69,78,84,83]⟩⟩
def t571 : Str := ⟨⟨[105,115,95,110,97,109,101]⟩⟩
def t572 : Str := ⟨⟨[114,101,97,100,95,110,97,109,101]⟩⟩
def t573 : Str := ⟨⟨[114,101,97,100,95,108,101,118,101,108]⟩⟩
def t574 : Str := ⟨⟨[114,101,97,100,95,97,114,103,117,109,101,110,116]⟩⟩
def t575 : Str := ⟨⟨[114,101,97,100,95,108,101,116]⟩⟩
def t576 : Str := ⟨⟨[114,101,97,100,95,111,114,100,101,114]⟩⟩
def t577 : Str := ⟨⟨[112,114,105,99,101,95,97,110,115,119,101,114]⟩⟩
def t578 : Str := ⟨⟨[115,104,97,114,101,95,97,110,115,119,101,114]⟩⟩
def t579 : Str := ⟨⟨[97,110,115,119,101,114,101,100]⟩⟩
def t580 : Str := ⟨⟨[67,111,110,115,111,108,101]⟩⟩
def t581 : Str := ⟨⟨[95,108,97,119,95,115,111,117,114,99,101]⟩⟩
def t582 : Str := ⟨⟨[95,108,97,119,95,111,110,119,97,114,100]⟩⟩
def t583 : Str := ⟨⟨[95,108,97,119,95,100,114,97,119]⟩⟩
def t584 : Str := ⟨⟨[95,108,97,119,95,103,114,97,109,109,97,114]⟩⟩
def t585 : Str := ⟨⟨[95,108,97,119,95,115,112,114,101,97,100]⟩⟩
def t586 : Str := ⟨⟨[95,108,97,119,95,107,105,110,100,115]⟩⟩
def t587 : Str := ⟨⟨[95,108,97,119,95,105,115,95,100,117,101]⟩⟩
def t588 : Str := ⟨⟨[95,108,97,119,95,98,97,100,95,110,97,109,101,115]⟩⟩
def t589 : Str := ⟨⟨[95,108,97,119,95,98,97,100,95,103,114,97,109,109,97,114]⟩⟩
def t590 : Str := ⟨⟨[95,108,97,119,95,99,97,108,108]⟩⟩
def t591 : Str := ⟨⟨[95,108,97,119,95,114,101,102,117,115,101,100]⟩⟩
def t592 : Str := ⟨⟨[108,97,119]⟩⟩
def t593 : Str := ⟨⟨[108,97,119,95,119,104,111,108,101,99,111,117,110,116,115,95,107,55,52,95,114,101,102,117,115,97,108,115,95,111,102,95,99,111,110,115,111,108,101,115]⟩⟩
def t594 : Str := ⟨⟨[97,98,99,100,101,102,103,104,105,106,107,108,109,110,111,112,113,114,115,116,117,118,119,120,121,122]⟩⟩
def t595 : Str := ⟨⟨[32,47,32]⟩⟩
def t596 : Str := ⟨⟨[119,104,111,108,101,99,111,117,110,116,115,46,109,101,97,110,105,110,103,115]⟩⟩
def t597 : Str := ⟨⟨[119,104,111,108,101,99,111,117,110,116,115,46,116,114,117,116,104,115]⟩⟩
def t598 : Str := ⟨⟨[109,101,97,110,105,110,103]⟩⟩
def t599 : Str := ⟨⟨[117,110,100,111]⟩⟩
def t600 : Str := ⟨⟨[100,114,111,112]⟩⟩
def t601 : Str := ⟨⟨[115,104,111,119]⟩⟩
def t602 : Str := ⟨⟨[115,116,97,116,101,115]⟩⟩
def t603 : Str := ⟨⟨[115,97,109,101]⟩⟩
def t604 : Str := ⟨⟨[112,114,105,99,101]⟩⟩
def t605 : Str := ⟨⟨[115,104,97,114,101]⟩⟩
def t606 : Str := ⟨⟨[98,101,108,111,119]⟩⟩
def t607 : Str := ⟨⟨[108,101,118,101,108]⟩⟩
def t608 : Str := ⟨⟨[119,104,111,108,101,99,111,117,110,116,115,46,111,114,100,101,114,115]⟩⟩
def t609 : Str := ⟨⟨[107,105,110,100]⟩⟩
def t610 : Str := ⟨⟨[119,111,114,100,115]⟩⟩
def t611 : Str := ⟨⟨[118,97,108,117,101,115]⟩⟩
def t612 : Str := ⟨⟨[112,97,112,101,114]⟩⟩
def t613 : Str := ⟨⟨[95,99,104,97,110,103,101]⟩⟩
def t614 : Str := ⟨⟨[95,112,117,116]⟩⟩
def t615 : Str := ⟨⟨[107,101,101,112]⟩⟩
def t616 : Str := ⟨⟨[95,95,108,101,110,95,95]⟩⟩
def t617 : Str := ⟨⟨[95,95,99,111,110,116,97,105,110,115,95,95]⟩⟩
def t618 : Str := ⟨⟨[111,114,100,101,114]⟩⟩
def t619 : Str := ⟨⟨[95,97,110,115,119,101,114]⟩⟩
def t620 : Str := ⟨⟨[119,104,111,108,101,99,111,117,110,116,115,46,99,111,110,115,111,108,101,115]⟩⟩
def t621 : Str := ⟨⟨[67,111,110,115,111,108,101,46,95,95,105,110,105,116,95,95]⟩⟩
def t622 : Str := ⟨⟨[101,108,100,101,114]⟩⟩
def t623 : Str := ⟨⟨[67,111,110,115,111,108,101,46,95,99,104,97,110,103,101]⟩⟩
def t624 : Str := ⟨⟨[67,111,110,115,111,108,101,46,95,112,117,116]⟩⟩
def t625 : Str := ⟨⟨[67,111,110,115,111,108,101,46,107,101,101,112]⟩⟩
def t626 : Str := ⟨⟨[67,111,110,115,111,108,101,46,100,114,111,112]⟩⟩
def t627 : Str := ⟨⟨[67,111,110,115,111,108,101,46,117,110,100,111]⟩⟩
def t628 : Str := ⟨⟨[67,111,110,115,111,108,101,46,110,97,109,101,115]⟩⟩
def t629 : Str := ⟨⟨[67,111,110,115,111,108,101,46,103,114,97,109,109,97,114]⟩⟩
def t630 : Str := ⟨⟨[67,111,110,115,111,108,101,46,95,95,108,101,110,95,95]⟩⟩
def t631 : Str := ⟨⟨[67,111,110,115,111,108,101,46,95,95,99,111,110,116,97,105,110,115,95,95]⟩⟩
def t632 : Str := ⟨⟨[67,111,110,115,111,108,101,46,111,114,100,101,114]⟩⟩
def t633 : Str := ⟨⟨[67,111,110,115,111,108,101,46,95,97,110,115,119,101,114]⟩⟩
def t634 : Str := ⟨⟨[95,107,101,112,116]⟩⟩
def t635 : Str := ⟨⟨[95,112,97,115,116]⟩⟩
def t636 : Str := ⟨⟨[115,111,117,114,99,101]⟩⟩
def t637 : Str := ⟨⟨[99,101,108,108,115]⟩⟩
def t638 : Str := ⟨⟨[99,101,108,108]⟩⟩
def t639 : Str := ⟨⟨[102,105,114,115,116]⟩⟩
def t640 : Str := ⟨⟨[115,101,99,111,110,100]⟩⟩
def t641 : Str := ⟨⟨[116,104,105,114,100]⟩⟩
def t642 : Str := ⟨⟨[116,111,116,97,108]⟩⟩
def t643 : Str := ⟨⟨[99,97,117,103,104,116]⟩⟩
def t644 : Str := ⟨⟨[98,97,100]⟩⟩
def t645 : Str := ⟨⟨[99,111,110,115,111,108,101]⟩⟩
def t646 : Str := ⟨⟨[119,104,97,116]⟩⟩
def t647 : Str := ⟨⟨[110,97,109,101,100]⟩⟩
def y0 (w : World) : Obj := ⟨(.type "dict"),none,(.dict ⟨[⟨hs w t0,(.str t0 1),(.str t159 160)⟩,⟨hs w t1,(.str t1 2),(.builtin "builtins.__doc__:str#opaque")⟩,⟨hs w t2,(.str t2 3),(.builtin "builtins.__package__:str#opaque")⟩,⟨hs w t3,(.str t3 4),(.builtin "builtins.__loader__:shared#opaque")⟩,⟨hs w t4,(.str t4 5),(.builtin "builtins.__spec__#opaque")⟩,⟨hs w t5,(.str t5 6),(.builtin "__build_class__")⟩,⟨hs w t6,(.str t6 7),(.builtin "__import__")⟩,⟨hs w t7,(.str t7 8),(.builtin "abs")⟩,⟨hs w t8,(.str t8 9),(.builtin "all")⟩,⟨hs w t9,(.str t9 10),(.builtin "any")⟩,⟨hs w t10,(.str t10 11),(.builtin "ascii")⟩,⟨hs w t11,(.str t11 12),(.builtin "bin")⟩,⟨hs w t12,(.str t12 13),(.builtin "breakpoint")⟩,⟨hs w t13,(.str t13 14),(.builtin "callable")⟩,⟨hs w t14,(.str t14 15),(.builtin "chr")⟩,⟨hs w t15,(.str t15 16),(.builtin "compile")⟩,⟨hs w t16,(.str t16 17),(.builtin "delattr")⟩,⟨hs w t17,(.str t17 18),(.builtin "dir")⟩,⟨hs w t18,(.str t18 19),(.builtin "divmod")⟩,⟨hs w t19,(.str t19 20),(.builtin "eval")⟩,⟨hs w t20,(.str t20 21),(.builtin "exec")⟩,⟨hs w t21,(.str t21 22),(.builtin "format")⟩,⟨hs w t22,(.str t22 23),(.builtin "getattr")⟩,⟨hs w t23,(.str t23 24),(.builtin "globals")⟩,⟨hs w t24,(.str t24 25),(.builtin "hasattr")⟩,⟨hs w t25,(.str t25 26),(.builtin "hash")⟩,⟨hs w t26,(.str t26 27),(.builtin "hex")⟩,⟨hs w t27,(.str t27 28),(.builtin "id")⟩,⟨hs w t28,(.str t28 29),(.builtin "input")⟩,⟨hs w t29,(.str t29 30),(.builtin "isinstance")⟩,⟨hs w t30,(.str t30 31),(.builtin "issubclass")⟩,⟨hs w t31,(.str t31 32),(.builtin "iter")⟩,⟨hs w t32,(.str t32 33),(.builtin "aiter")⟩,⟨hs w t33,(.str t33 34),(.builtin "len")⟩,⟨hs w t34,(.str t34 35),(.builtin "locals")⟩,⟨hs w t35,(.str t35 36),(.builtin "max")⟩,⟨hs w t36,(.str t36 37),(.builtin "min")⟩,⟨hs w t37,(.str t37 38),(.builtin "next")⟩,⟨hs w t38,(.str t38 39),(.builtin "anext")⟩,⟨hs w t39,(.str t39 40),(.builtin "oct")⟩,⟨hs w t40,(.str t40 41),(.builtin "ord")⟩,⟨hs w t41,(.str t41 42),(.builtin "pow")⟩,⟨hs w t42,(.str t42 43),(.builtin "print")⟩,⟨hs w t43,(.str t43 44),(.builtin "repr")⟩,⟨hs w t44,(.str t44 45),(.builtin "round")⟩,⟨hs w t45,(.str t45 46),(.builtin "setattr")⟩,⟨hs w t46,(.str t46 47),(.builtin "sorted")⟩,⟨hs w t47,(.str t47 48),(.builtin "sum")⟩,⟨hs w t48,(.str t48 49),(.builtin "vars")⟩,⟨hs w t49,(.str t49 50),.none⟩,⟨hs w t50,(.str t50 51),.ellipsis⟩,⟨hs w t51,(.str t51 52),.notImplemented⟩,⟨hs w t52,(.str t52 53),(.bool false)⟩,⟨hs w t53,(.str t53 54),(.bool true)⟩,⟨hs w t54,(.str t54 55),(.type "bool")⟩,⟨hs w t55,(.str t55 56),(.type "memoryview")⟩,⟨hs w t56,(.str t56 57),(.type "bytearray")⟩,⟨hs w t57,(.str t57 58),(.type "bytes")⟩,⟨hs w t58,(.str t58 59),(.type "classmethod")⟩,⟨hs w t59,(.str t59 60),(.type "complex")⟩,⟨hs w t60,(.str t60 61),(.type "dict")⟩,⟨hs w t61,(.str t61 62),(.type "enumerate")⟩,⟨hs w t62,(.str t62 63),(.type "filter")⟩,⟨hs w t63,(.str t63 64),(.type "float")⟩,⟨hs w t64,(.str t64 65),(.type "frozenset")⟩,⟨hs w t65,(.str t65 66),(.type "property")⟩,⟨hs w t66,(.str t66 67),(.type "int")⟩,⟨hs w t67,(.str t67 68),(.type "list")⟩,⟨hs w t68,(.str t68 69),(.type "map")⟩,⟨hs w t69,(.str t69 70),(.type "object")⟩,⟨hs w t70,(.str t70 71),(.type "range")⟩,⟨hs w t71,(.str t71 72),(.type "reversed")⟩,⟨hs w t72,(.str t72 73),(.type "set")⟩,⟨hs w t73,(.str t73 74),(.type "slice")⟩,⟨hs w t74,(.str t74 75),(.type "staticmethod")⟩,⟨hs w t75,(.str t75 76),(.type "str")⟩,⟨hs w t76,(.str t76 77),(.type "super")⟩,⟨hs w t77,(.str t77 78),(.type "tuple")⟩,⟨hs w t78,(.str t78 79),(.type "type")⟩,⟨hs w t79,(.str t79 80),(.type "zip")⟩,⟨hs w t80,(.str t80 81),(.bool true)⟩,⟨hs w t81,(.str t81 82),(.type "BaseException")⟩,⟨hs w t82,(.str t82 83),(.type "BaseExceptionGroup")⟩,⟨hs w t83,(.str t83 84),(.type "Exception")⟩,⟨hs w t84,(.str t84 85),(.type "GeneratorExit")⟩,⟨hs w t85,(.str t85 86),(.type "KeyboardInterrupt")⟩,⟨hs w t86,(.str t86 87),(.type "SystemExit")⟩,⟨hs w t87,(.str t87 88),(.type "ArithmeticError")⟩,⟨hs w t88,(.str t88 89),(.type "AssertionError")⟩,⟨hs w t89,(.str t89 90),(.type "AttributeError")⟩,⟨hs w t90,(.str t90 91),(.type "BufferError")⟩,⟨hs w t91,(.str t91 92),(.type "EOFError")⟩,⟨hs w t92,(.str t92 93),(.type "ImportError")⟩,⟨hs w t93,(.str t93 94),(.type "LookupError")⟩,⟨hs w t94,(.str t94 95),(.type "MemoryError")⟩,⟨hs w t95,(.str t95 96),(.type "NameError")⟩,⟨hs w t96,(.str t96 97),(.type "OSError")⟩,⟨hs w t97,(.str t97 98),(.type "ReferenceError")⟩,⟨hs w t98,(.str t98 99),(.type "RuntimeError")⟩,⟨hs w t99,(.str t99 100),(.type "StopAsyncIteration")⟩,⟨hs w t100,(.str t100 101),(.type "StopIteration")⟩,⟨hs w t101,(.str t101 102),(.type "SyntaxError")⟩,⟨hs w t102,(.str t102 103),(.type "SystemError")⟩,⟨hs w t103,(.str t103 104),(.type "TypeError")⟩,⟨hs w t104,(.str t104 105),(.type "ValueError")⟩,⟨hs w t105,(.str t105 106),(.type "Warning")⟩,⟨hs w t106,(.str t106 107),(.type "FloatingPointError")⟩,⟨hs w t107,(.str t107 108),(.type "OverflowError")⟩,⟨hs w t108,(.str t108 109),(.type "ZeroDivisionError")⟩,⟨hs w t109,(.str t109 110),(.type "BytesWarning")⟩,⟨hs w t110,(.str t110 111),(.type "DeprecationWarning")⟩,⟨hs w t111,(.str t111 112),(.type "EncodingWarning")⟩,⟨hs w t112,(.str t112 113),(.type "FutureWarning")⟩,⟨hs w t113,(.str t113 114),(.type "ImportWarning")⟩,⟨hs w t114,(.str t114 115),(.type "PendingDeprecationWarning")⟩,⟨hs w t115,(.str t115 116),(.type "ResourceWarning")⟩,⟨hs w t116,(.str t116 117),(.type "RuntimeWarning")⟩,⟨hs w t117,(.str t117 118),(.type "SyntaxWarning")⟩,⟨hs w t118,(.str t118 119),(.type "UnicodeWarning")⟩,⟨hs w t119,(.str t119 120),(.type "UserWarning")⟩,⟨hs w t120,(.str t120 121),(.type "BlockingIOError")⟩,⟨hs w t121,(.str t121 122),(.type "ChildProcessError")⟩,⟨hs w t122,(.str t122 123),(.type "ConnectionError")⟩,⟨hs w t123,(.str t123 124),(.type "FileExistsError")⟩,⟨hs w t124,(.str t124 125),(.type "FileNotFoundError")⟩,⟨hs w t125,(.str t125 126),(.type "InterruptedError")⟩,⟨hs w t126,(.str t126 127),(.type "IsADirectoryError")⟩,⟨hs w t127,(.str t127 128),(.type "NotADirectoryError")⟩,⟨hs w t128,(.str t128 129),(.type "PermissionError")⟩,⟨hs w t129,(.str t129 130),(.type "ProcessLookupError")⟩,⟨hs w t130,(.str t130 131),(.type "TimeoutError")⟩,⟨hs w t131,(.str t131 132),(.type "IndentationError")⟩,⟨hs w t132,(.str t132 133),(.type "_IncompleteInputError")⟩,⟨hs w t133,(.str t133 134),(.type "IndexError")⟩,⟨hs w t134,(.str t134 135),(.type "KeyError")⟩,⟨hs w t135,(.str t135 136),(.type "ModuleNotFoundError")⟩,⟨hs w t136,(.str t136 137),(.type "NotImplementedError")⟩,⟨hs w t137,(.str t137 138),(.type "PythonFinalizationError")⟩,⟨hs w t138,(.str t138 139),(.type "RecursionError")⟩,⟨hs w t139,(.str t139 140),(.type "UnboundLocalError")⟩,⟨hs w t140,(.str t140 141),(.type "UnicodeError")⟩,⟨hs w t141,(.str t141 142),(.type "BrokenPipeError")⟩,⟨hs w t142,(.str t142 143),(.type "ConnectionAbortedError")⟩,⟨hs w t143,(.str t143 144),(.type "ConnectionRefusedError")⟩,⟨hs w t144,(.str t144 145),(.type "ConnectionResetError")⟩,⟨hs w t145,(.str t145 146),(.type "TabError")⟩,⟨hs w t146,(.str t146 147),(.type "UnicodeDecodeError")⟩,⟨hs w t147,(.str t147 148),(.type "UnicodeEncodeError")⟩,⟨hs w t148,(.str t148 149),(.type "UnicodeTranslateError")⟩,⟨hs w t149,(.str t149 150),(.type "ExceptionGroup")⟩,⟨hs w t150,(.str t150 151),(.type "OSError")⟩,⟨hs w t151,(.str t151 152),(.type "OSError")⟩,⟨hs w t152,(.str t152 153),(.builtin "open")⟩,⟨hs w t153,(.str t153 154),(.builtin "builtins.quit#opaque")⟩,⟨hs w t154,(.str t154 155),(.builtin "builtins.exit#opaque")⟩,⟨hs w t155,(.str t155 156),(.builtin "builtins.copyright#opaque")⟩,⟨hs w t156,(.str t156 157),(.builtin "builtins.credits#opaque")⟩,⟨hs w t157,(.str t157 158),(.builtin "builtins.license#opaque")⟩,⟨hs w t158,(.str t158 159),(.builtin "builtins.help#opaque")⟩]⟩ 159),⟨[]⟩⟩
def y1 (w : World) : Obj := ⟨(.type "dict"),none,(.dict ⟨[⟨hs w t159,(.str t159 162),(.ref 4)⟩,⟨hs w t160,(.str t160 163),(.ref 5)⟩,⟨hs w t161,(.str t161 284),(.ref 13)⟩]⟩ 3),⟨[]⟩⟩
def y2 (w : World) : Obj := ⟨.none,none,(.dict ⟨[⟨hs w t162,(.str t162 185),(.bool true)⟩,⟨hs w t163,(.str t163 190),(.ref 16)⟩,⟨hs w t164,(.str t164 206),(.ref 20)⟩,⟨hs w t165,(.str t165 207),(.ref 22)⟩,⟨hs w t166,(.str t166 228),(.ref 27)⟩,⟨hs w t167,(.str t167 256),(.ref 33)⟩,⟨hs w t168,(.str t168 285),(.int 3 0)⟩,⟨hs w t169,(.str t169 361),(.bool true)⟩,⟨hs w t170,(.str t170 363),(.ref 38)⟩,⟨hs w t171,(.str t171 0),(.str t172 0)⟩]⟩ 10),⟨[]⟩⟩
def y3 (w : World) : Obj := ⟨(.type "dict"),none,(.dict ⟨[⟨hs w t0,(.str t0 165),(.str t160 164)⟩,⟨hs w t1,(.str t1 166),.none⟩,⟨hs w t2,(.str t2 167),.none⟩,⟨hs w t3,(.str t3 168),(.builtin "__main__.__loader__#opaque")⟩,⟨hs w t4,(.str t4 169),.none⟩,⟨hs w t173,(.str t173 170),(.ref 6)⟩,⟨hs w t174,(.str t174 171),(.ref 4)⟩,⟨hs w t175,(.str t175 173),(.str t178 172)⟩,⟨hs w t176,(.str t176 174),.none⟩,⟨hs w t177,(.str t177 369),(.builtin "math.gcd")⟩]⟩ 10),⟨[]⟩⟩
def y4 (w : World) : Obj := ⟨(.type "module"),(some 0),.plain,⟨[]⟩⟩
def y5 (w : World) : Obj := ⟨(.type "module"),(some 3),.plain,⟨[]⟩⟩
def y6 (w : World) : Obj := ⟨(.type "dict"),none,(.dict ⟨[]⟩ 0),⟨[]⟩⟩
def y7 (w : World) : Obj := ⟨(.type "tuple"),none,(.seq ⟨[]⟩ 0),⟨[]⟩⟩
def y8 (w : World) : Obj := ⟨.none,none,(.fields ⟨[]⟩),⟨[]⟩⟩
def y9 (w : World) : Obj := ⟨(.type "code"),none,(.fields ⟨[(.str t179 176),(.str t179 177),(.str t178 178),(.int 1 0),(.int 0 0),(.int 0 0),(.int 0 0),(.int 0 0),(.ref 7),(.bool false),(.int 175 0),(.ref 8),.none,.none,.none,.none,(.int 179 0),(.int 1 0),(.str t178 180)]⟩),⟨[]⟩⟩
def y10 (w : World) : Obj := ⟨(.type "frame"),none,.plain,⟨[(some (.ref 9)),(some (.ref 3)),(some (.ref 3)),none,(some (.str t160 164)),none,(some (.ref 0))]⟩⟩
def y11 (w : World) : Obj := ⟨(.type "tuple"),none,(.seq ⟨[(.str t177 182)]⟩ 0),⟨[]⟩⟩
def y12 (w : World) : Obj := ⟨(.type "dict"),none,(.dict ⟨[⟨hs w t0,(.str t0 287),(.str t161 286)⟩,⟨hs w t1,(.str t1 288),(.builtin "off-the-table:math.__doc__:shared#opaque")⟩,⟨hs w t2,(.str t2 290),(.str t240 289)⟩,⟨hs w t3,(.str t3 291),(.builtin "off-the-table:math.__loader__:shared#opaque")⟩,⟨hs w t4,(.str t4 292),(.builtin "off-the-table:math.__spec__:shared#opaque")⟩,⟨hs w t180,(.str t180 293),(.builtin "off-the-table:math.acos:shared#opaque")⟩,⟨hs w t181,(.str t181 294),(.builtin "off-the-table:math.acosh:shared#opaque")⟩,⟨hs w t182,(.str t182 295),(.builtin "off-the-table:math.asin:shared#opaque")⟩,⟨hs w t183,(.str t183 296),(.builtin "off-the-table:math.asinh:shared#opaque")⟩,⟨hs w t184,(.str t184 297),(.builtin "off-the-table:math.atan:shared#opaque")⟩,⟨hs w t185,(.str t185 298),(.builtin "off-the-table:math.atan2:shared#opaque")⟩,⟨hs w t186,(.str t186 299),(.builtin "off-the-table:math.atanh:shared#opaque")⟩,⟨hs w t187,(.str t187 300),(.builtin "off-the-table:math.cbrt:shared#opaque")⟩,⟨hs w t188,(.str t188 301),(.builtin "math.ceil")⟩,⟨hs w t189,(.str t189 302),(.builtin "math.copysign")⟩,⟨hs w t190,(.str t190 303),(.builtin "off-the-table:math.cos:shared#opaque")⟩,⟨hs w t191,(.str t191 304),(.builtin "off-the-table:math.cosh:shared#opaque")⟩,⟨hs w t192,(.str t192 305),(.builtin "math.degrees")⟩,⟨hs w t193,(.str t193 306),(.builtin "math.dist")⟩,⟨hs w t194,(.str t194 307),(.builtin "off-the-table:math.erf:shared#opaque")⟩,⟨hs w t195,(.str t195 308),(.builtin "off-the-table:math.erfc:shared#opaque")⟩,⟨hs w t196,(.str t196 309),(.builtin "off-the-table:math.exp:shared#opaque")⟩,⟨hs w t197,(.str t197 310),(.builtin "off-the-table:math.exp2:shared#opaque")⟩,⟨hs w t198,(.str t198 311),(.builtin "off-the-table:math.expm1:shared#opaque")⟩,⟨hs w t199,(.str t199 312),(.builtin "math.fabs")⟩,⟨hs w t200,(.str t200 313),(.builtin "math.factorial")⟩,⟨hs w t201,(.str t201 314),(.builtin "math.floor")⟩,⟨hs w t202,(.str t202 315),(.builtin "math.fma")⟩,⟨hs w t203,(.str t203 316),(.builtin "math.fmod")⟩,⟨hs w t204,(.str t204 317),(.builtin "math.frexp")⟩,⟨hs w t205,(.str t205 318),(.builtin "math.fsum")⟩,⟨hs w t206,(.str t206 319),(.builtin "off-the-table:math.gamma:shared#opaque")⟩,⟨hs w t177,(.str t177 320),(.builtin "math.gcd")⟩,⟨hs w t207,(.str t207 321),(.builtin "math.hypot")⟩,⟨hs w t208,(.str t208 322),(.builtin "math.isclose")⟩,⟨hs w t209,(.str t209 323),(.builtin "math.isfinite")⟩,⟨hs w t210,(.str t210 324),(.builtin "math.isinf")⟩,⟨hs w t211,(.str t211 325),(.builtin "math.isnan")⟩,⟨hs w t212,(.str t212 326),(.builtin "math.isqrt")⟩,⟨hs w t213,(.str t213 327),(.builtin "math.lcm")⟩,⟨hs w t214,(.str t214 328),(.builtin "math.ldexp")⟩,⟨hs w t215,(.str t215 329),(.builtin "off-the-table:math.lgamma:shared#opaque")⟩,⟨hs w t216,(.str t216 330),(.builtin "off-the-table:math.log:shared#opaque")⟩,⟨hs w t217,(.str t217 331),(.builtin "off-the-table:math.log1p:shared#opaque")⟩,⟨hs w t218,(.str t218 332),(.builtin "off-the-table:math.log10:shared#opaque")⟩,⟨hs w t219,(.str t219 333),(.builtin "off-the-table:math.log2:shared#opaque")⟩,⟨hs w t220,(.str t220 334),(.builtin "math.modf")⟩,⟨hs w t41,(.str t41 335),(.builtin "off-the-table:math.pow:shared#opaque")⟩,⟨hs w t221,(.str t221 336),(.builtin "math.radians")⟩,⟨hs w t222,(.str t222 337),(.builtin "math.remainder")⟩,⟨hs w t223,(.str t223 338),(.builtin "off-the-table:math.sin:shared#opaque")⟩,⟨hs w t224,(.str t224 339),(.builtin "off-the-table:math.sinh:shared#opaque")⟩,⟨hs w t225,(.str t225 340),(.builtin "math.sqrt")⟩,⟨hs w t226,(.str t226 341),(.builtin "off-the-table:math.tan:shared#opaque")⟩,⟨hs w t227,(.str t227 342),(.builtin "off-the-table:math.tanh:shared#opaque")⟩,⟨hs w t228,(.str t228 343),(.builtin "math.sumprod")⟩,⟨hs w t229,(.str t229 344),(.builtin "math.trunc")⟩,⟨hs w t230,(.str t230 345),(.builtin "math.prod")⟩,⟨hs w t231,(.str t231 346),(.builtin "math.perm")⟩,⟨hs w t232,(.str t232 347),(.builtin "math.comb")⟩,⟨hs w t233,(.str t233 348),(.builtin "math.nextafter")⟩,⟨hs w t234,(.str t234 349),(.builtin "math.ulp")⟩,⟨hs w t175,(.str t175 350),(.str t241 186)⟩,⟨hs w t235,(.str t235 352),(.float 4614256656552045848 351)⟩,⟨hs w t236,(.str t236 354),(.float 4613303445314885481 353)⟩,⟨hs w t237,(.str t237 356),(.float 4618760256179416344 355)⟩,⟨hs w t238,(.str t238 358),(.float 9218868437227405312 357)⟩,⟨hs w t239,(.str t239 360),(.float 9221120237041090560 359)⟩]⟩ 68),⟨[]⟩⟩
def y13 (w : World) : Obj := ⟨(.type "module"),(some 12),.plain,⟨[]⟩⟩
def y14 (w : World) : Obj := ⟨(.type "dict"),none,(.dict ⟨[⟨hs w t242,(.str t242 188),(.str t161 187)⟩,⟨hs w t243,(.str t243 189),(.str t241 186)⟩]⟩ 2),⟨[]⟩⟩
def y15 (w : World) : Obj := ⟨(.type "dict"),none,(.dict ⟨[⟨hs w t244,(.str t244 193),(.str t253 191)⟩,⟨hs w t245,(.str t245 194),(.int 1001 192)⟩,⟨hs w t1,(.str t1 195),(.builtin "_frozen_importlib_external._LoaderBasics.__doc__:str#opaque")⟩,⟨hs w t246,(.str t246 196),(.builtin "_frozen_importlib_external._LoaderBasics.is_package#opaque")⟩,⟨hs w t247,(.str t247 197),(.builtin "_frozen_importlib_external._LoaderBasics.create_module#opaque")⟩,⟨hs w t248,(.str t248 198),(.builtin "_frozen_importlib_external._LoaderBasics.exec_module#opaque")⟩,⟨hs w t249,(.str t249 199),(.builtin "_frozen_importlib_external._LoaderBasics.load_module#opaque")⟩,⟨hs w t250,(.str t250 200),(.ref 17)⟩,⟨hs w t251,(.str t251 202),(.ref 18)⟩,⟨hs w t252,(.str t252 204),(.ref 19)⟩]⟩ 10),⟨[]⟩⟩
def y16 (w : World) : Obj := ⟨(.type "type"),none,(.cls { name := t254, bases := [(.type "object")], mro := [(.ref 16),(.type "object")], ns := 15, qualname := t254, hasDict := true, slotNames := [], subclasses := [(.ref 27)], abstract := false, collection := none, hasDel := false }),⟨[]⟩⟩
def y17 (w : World) : Obj := ⟨(.type "tuple"),none,(.seq ⟨[]⟩ 0),⟨[]⟩⟩
def y18 (w : World) : Obj := ⟨(.type "getset_descriptor"),none,(.fields ⟨[(.str t251 201),(.ref 16),(.builtin "function.__dict__"),(.builtin "function.__dict__#set")]⟩),⟨[]⟩⟩
def y19 (w : World) : Obj := ⟨(.type "getset_descriptor"),none,(.fields ⟨[(.str t252 203),(.ref 16),(.builtin "ExceptionGroup.__weakref__"),.none]⟩),⟨[]⟩⟩
def y20 (w : World) : Obj := ⟨.none,none,(.seq ⟨[(.int 15 0),(.str t255 0),(.bool true),(.bool true),(.str t240 205),(.int 21 0),(.str t256 0),(.bool true),(.bool true),(.str t240 227),(.int 26 0),(.str t257 0),(.bool true),(.bool true),(.str t240 246),(.int 32 0),(.str t258 0),(.bool true),(.bool true),(.str t240 282)]⟩ 3),⟨[]⟩⟩
def y21 (w : World) : Obj := ⟨(.type "dict"),none,(.dict ⟨[⟨hs w t244,(.str t244 212),(.str t253 208)⟩,⟨hs w t245,(.str t245 213),(.int 1176 209)⟩,⟨hs w t1,(.str t1 214),(.builtin "_frozen_importlib_external.FileLoader.__doc__:str#opaque")⟩,⟨hs w t259,(.str t259 215),(.builtin "_frozen_importlib_external.FileLoader.__init__#opaque")⟩,⟨hs w t260,(.str t260 216),(.builtin "_frozen_importlib_external.FileLoader.__eq__#opaque")⟩,⟨hs w t261,(.str t261 217),(.builtin "_frozen_importlib_external.FileLoader.__hash__#opaque")⟩,⟨hs w t249,(.str t249 218),(.builtin "_frozen_importlib_external.FileLoader.load_module#opaque")⟩,⟨hs w t262,(.str t262 219),(.builtin "_frozen_importlib_external.FileLoader.get_filename#opaque")⟩,⟨hs w t263,(.str t263 220),(.builtin "_frozen_importlib_external.FileLoader.get_data#opaque")⟩,⟨hs w t264,(.str t264 221),(.builtin "_frozen_importlib_external.FileLoader.get_resource_reader#opaque")⟩,⟨hs w t250,(.str t250 222),(.ref 23)⟩,⟨hs w t251,(.str t251 224),(.ref 24)⟩,⟨hs w t252,(.str t252 226),(.ref 25)⟩]⟩ 13),⟨[]⟩⟩
def y22 (w : World) : Obj := ⟨(.type "type"),none,(.cls { name := t265, bases := [(.type "object")], mro := [(.ref 22),(.type "object")], ns := 21, qualname := t265, hasDict := true, slotNames := [], subclasses := [(.ref 27)], abstract := false, collection := none, hasDel := false }),⟨[]⟩⟩
def y23 (w : World) : Obj := ⟨(.type "tuple"),none,(.seq ⟨[(.str t242 210),(.str t243 211)]⟩ 0),⟨[]⟩⟩
def y24 (w : World) : Obj := ⟨(.type "getset_descriptor"),none,(.fields ⟨[(.str t251 223),(.ref 22),(.builtin "function.__dict__"),(.builtin "function.__dict__#set")]⟩),⟨[]⟩⟩
def y25 (w : World) : Obj := ⟨(.type "getset_descriptor"),none,(.fields ⟨[(.str t252 225),(.ref 22),(.builtin "ExceptionGroup.__weakref__"),.none]⟩),⟨[]⟩⟩
def y26 (w : World) : Obj := ⟨(.type "dict"),none,(.dict ⟨[⟨hs w t244,(.str t244 233),(.str t253 229)⟩,⟨hs w t245,(.str t245 234),(.int 1296 230)⟩,⟨hs w t1,(.str t1 235),(.builtin "_frozen_importlib_external.ExtensionFileLoader.__doc__:str#opaque")⟩,⟨hs w t259,(.str t259 236),(.builtin "_frozen_importlib_external.ExtensionFileLoader.__init__#opaque")⟩,⟨hs w t260,(.str t260 237),(.builtin "_frozen_importlib_external.ExtensionFileLoader.__eq__#opaque")⟩,⟨hs w t261,(.str t261 238),(.builtin "_frozen_importlib_external.ExtensionFileLoader.__hash__#opaque")⟩,⟨hs w t247,(.str t247 239),(.builtin "_frozen_importlib_external.ExtensionFileLoader.create_module#opaque")⟩,⟨hs w t248,(.str t248 240),(.builtin "_frozen_importlib_external.ExtensionFileLoader.exec_module#opaque")⟩,⟨hs w t246,(.str t246 241),(.builtin "_frozen_importlib_external.ExtensionFileLoader.is_package#opaque")⟩,⟨hs w t266,(.str t266 242),(.builtin "_frozen_importlib_external.ExtensionFileLoader.get_code#opaque")⟩,⟨hs w t267,(.str t267 243),(.builtin "_frozen_importlib_external.ExtensionFileLoader.get_source#opaque")⟩,⟨hs w t262,(.str t262 244),(.builtin "_frozen_importlib_external.ExtensionFileLoader.get_filename#opaque")⟩,⟨hs w t250,(.str t250 245),(.ref 28)⟩]⟩ 13),⟨[]⟩⟩
def y27 (w : World) : Obj := ⟨(.type "type"),none,(.cls { name := t268, bases := [(.ref 22),(.ref 16)], mro := [(.ref 27),(.ref 22),(.ref 16),(.type "object")], ns := 26, qualname := t268, hasDict := true, slotNames := [], subclasses := [], abstract := false, collection := none, hasDel := false }),⟨[]⟩⟩
def y28 (w : World) : Obj := ⟨(.type "tuple"),none,(.seq ⟨[(.str t242 231),(.str t243 232)]⟩ 0),⟨[]⟩⟩
def y29 (w : World) : Obj := ⟨(.ref 27),(some 14),.plain,⟨[]⟩⟩
def y30 (w : World) : Obj := ⟨(.type "list"),none,(.seq ⟨[]⟩ 0),⟨[]⟩⟩
def y31 (w : World) : Obj := ⟨(.type "dict"),none,(.dict ⟨[⟨hs w t242,(.str t242 248),(.str t161 247)⟩,⟨hs w t269,(.str t269 249),(.ref 29)⟩,⟨hs w t270,(.str t270 250),(.str t241 186)⟩,⟨hs w t271,(.str t271 251),.none⟩,⟨hs w t272,(.str t272 252),.none⟩,⟨hs w t273,(.str t273 253),(.ref 30)⟩,⟨hs w t274,(.str t274 254),(.bool true)⟩,⟨hs w t275,(.str t275 255),.none⟩,⟨hs w t276,(.str t276 283),(.bool false)⟩]⟩ 9),⟨[]⟩⟩
def y32 (w : World) : Obj := ⟨(.type "dict"),none,(.dict ⟨[⟨hs w t244,(.str t244 267),(.str t281 257)⟩,⟨hs w t245,(.str t245 268),(.int 562 258)⟩,⟨hs w t1,(.str t1 269),(.builtin "_frozen_importlib.ModuleSpec.__doc__:str#opaque")⟩,⟨hs w t259,(.str t259 270),(.builtin "_frozen_importlib.ModuleSpec.__init__#opaque")⟩,⟨hs w t277,(.str t277 271),(.builtin "_frozen_importlib.ModuleSpec.__repr__#opaque")⟩,⟨hs w t260,(.str t260 272),(.builtin "_frozen_importlib.ModuleSpec.__eq__#opaque")⟩,⟨hs w t278,(.str t278 273),(.builtin "_frozen_importlib.ModuleSpec.cached#opaque")⟩,⟨hs w t279,(.str t279 274),(.builtin "_frozen_importlib.ModuleSpec.parent#opaque")⟩,⟨hs w t280,(.str t280 275),(.builtin "_frozen_importlib.ModuleSpec.has_location#opaque")⟩,⟨hs w t250,(.str t250 276),(.ref 34)⟩,⟨hs w t251,(.str t251 278),(.ref 35)⟩,⟨hs w t252,(.str t252 280),(.ref 36)⟩,⟨hs w t261,(.str t261 281),.none⟩]⟩ 13),⟨[]⟩⟩
def y33 (w : World) : Obj := ⟨(.type "type"),none,(.cls { name := t282, bases := [(.type "object")], mro := [(.ref 33),(.type "object")], ns := 32, qualname := t282, hasDict := true, slotNames := [], subclasses := [], abstract := false, collection := none, hasDel := false }),⟨[]⟩⟩
def y34 (w : World) : Obj := ⟨(.type "tuple"),none,(.seq ⟨[(.str t275 259),(.str t274 260),(.str t273 261),(.str t269 262),(.str t271 263),(.str t242 264),(.str t270 265),(.str t272 266)]⟩ 0),⟨[]⟩⟩
def y35 (w : World) : Obj := ⟨(.type "getset_descriptor"),none,(.fields ⟨[(.str t251 277),(.ref 33),(.builtin "function.__dict__"),(.builtin "function.__dict__#set")]⟩),⟨[]⟩⟩
def y36 (w : World) : Obj := ⟨(.type "getset_descriptor"),none,(.fields ⟨[(.str t252 279),(.ref 33),(.builtin "ExceptionGroup.__weakref__"),.none]⟩),⟨[]⟩⟩
def y37 (w : World) : Obj := ⟨(.ref 33),(some 31),.plain,⟨[]⟩⟩
def y38 (w : World) : Obj := ⟨.none,none,(.seq ⟨[(.int 12 0),(.str t283 0),(.bool true),(.bool false),(.str t161 362)]⟩ 0),⟨[]⟩⟩
def life0 : Life := { registered := [], finalised := [], alive := [], known := 0, ids := [], orphanDicts := [], counting := false, cnt := ⟨[]⟩, zero := [], soft := 0, below := false, collecting := false, loading := false, debug := 0, thresholds := [2000, 10, 10], woke := false, asked := 0, gcEnabled := true, old := [], middle := [], young := 0, intoMiddle := false }
def tree0 (w : World) : PySem.W.BT := (.node (y0 w) (.node (y1 w) (.node (y3 w) (.node (y7 w) (.node (y15 w) (.node (y31 w) .nil .nil) .nil) (.node (y23 w) .nil .nil)) (.node (y11 w) (.node (y19 w) (.node (y35 w) .nil .nil) .nil) (.node (y27 w) .nil .nil))) (.node (y5 w) (.node (y9 w) (.node (y17 w) (.node (y33 w) .nil .nil) .nil) (.node (y25 w) .nil .nil)) (.node (y13 w) (.node (y21 w) (.node (y37 w) .nil .nil) .nil) (.node (y29 w) .nil .nil)))) (.node (y2 w) (.node (y4 w) (.node (y8 w) (.node (y16 w) (.node (y32 w) .nil .nil) .nil) (.node (y24 w) .nil .nil)) (.node (y12 w) (.node (y20 w) (.node (y36 w) .nil .nil) .nil) (.node (y28 w) .nil .nil))) (.node (y6 w) (.node (y10 w) (.node (y18 w) (.node (y34 w) .nil .nil) .nil) (.node (y26 w) .nil .nil)) (.node (y14 w) (.node (y22 w) (.node (y38 w) .nil .nil) .nil) (.node (y30 w) .nil .nil)))))
def st0 (w : World) : PySem.W.SharedT := ⟨tree0 w, 39, life0, #[], ⟨0,0,0,0⟩, 370, (start (opening R.prog)).1.os⟩
def y3_1 (w : World) : Obj := ⟨(.type "dict"),none,(.dict ⟨[⟨hs w t0,(.str t0 165),(.str t293 376)⟩,⟨hs w t1,(.str t1 166),.none⟩,⟨hs w t2,(.str t2 167),.none⟩,⟨hs w t3,(.str t3 168),(.builtin "__main__.__loader__#opaque")⟩,⟨hs w t4,(.str t4 169),.none⟩,⟨hs w t173,(.str t173 170),(.ref 6)⟩,⟨hs w t174,(.str t174 171),(.ref 4)⟩,⟨hs w t175,(.str t175 173),(.str t178 172)⟩,⟨hs w t176,(.str t176 174),.none⟩,⟨hs w t177,(.str t177 369),(.builtin "math.gcd")⟩,⟨hs w t284,(.str t284 404),(.ref 59)⟩,⟨hs w t285,(.str t285 420),(.ref 72)⟩,⟨hs w t286,(.str t286 436),(.ref 84)⟩,⟨hs w t287,(.str t287 452),(.ref 96)⟩,⟨hs w t288,(.str t288 468),(.ref 108)⟩,⟨hs w t289,(.str t289 484),(.ref 120)⟩,⟨hs w t290,(.str t290 500),(.ref 132)⟩,⟨hs w t291,(.str t291 516),(.ref 144)⟩,⟨hs w t292,(.str t292 532),(.ref 156)⟩]⟩ 19),⟨[]⟩⟩
def y39 (w : World) : Obj := ⟨(.type "tuple"),none,(.seq ⟨[]⟩ 0),⟨[]⟩⟩
def y40 (w : World) : Obj := ⟨.none,none,(.fields ⟨[(.int 3 0),(.int 0 0),(.ref 48),(.int 7 0),(.int 0 0),(.ref 68),(.int 9 0),(.int 0 0),(.ref 80),(.int 11 0),(.int 0 0),(.ref 92),(.int 13 0),(.int 0 0),(.ref 104),(.int 15 0),(.int 0 0),(.ref 116),(.int 17 0),(.int 0 0),(.ref 128),(.int 19 0),(.int 0 0),(.ref 140),(.int 21 0),(.int 0 0),(.ref 152)]⟩),⟨[]⟩⟩
def y41 (w : World) : Obj := ⟨(.type "code"),none,(.fields ⟨[(.str t179 371),(.str t179 372),(.str t178 373),(.int 1 0),(.int 0 0),(.int 0 0),(.int 0 0),(.int 0 0),(.ref 39),(.bool false),(.int 370 0),(.ref 40),.none,.none,.none,.none,(.int 374 0),(.int 1 0),(.str t178 375)]⟩),⟨[]⟩⟩
def y42 (w : World) : Obj := ⟨(.type "frame"),none,.plain,⟨[(some (.ref 41)),(some (.ref 3)),(some (.ref 3)),none,(some (.str t160 164)),none,(some (.ref 0))]⟩⟩
def y43 (w : World) : Obj := ⟨(.type "tuple"),none,(.seq ⟨[(.type "ValueError")]⟩ 0),⟨[]⟩⟩
def y44 (w : World) : Obj := ⟨(.type "builtin_function_or_method"),none,(.fields ⟨[(.builtin "type.__prepare__"),(.type "type")]⟩),⟨[]⟩⟩
def y45 (w : World) : Obj := ⟨(.type "dict"),none,(.dict ⟨[⟨hs w t244,(.str t244 385),(.str t293 376)⟩,⟨hs w t294,(.str t294 387),(.str t284 386)⟩,⟨hs w t245,(.str t245 389),(.int 3 388)⟩,⟨hs w t259,(.str t259 397),(.ref 56)⟩,⟨hs w t250,(.str t250 399),(.ref 57)⟩]⟩ 5),⟨[]⟩⟩
def y46 (w : World) : Obj := ⟨(.type "tuple"),none,(.seq ⟨[]⟩ 0),⟨[]⟩⟩
def y47 (w : World) : Obj := ⟨.none,none,(.fields ⟨[(.int 5 0),(.int 4 0),(.ref 55)]⟩),⟨[]⟩⟩
def y48 (w : World) : Obj := ⟨(.type "code"),none,(.fields ⟨[(.str t284 380),(.str t284 381),(.str t178 382),(.int 3 0),(.int 0 0),(.int 0 0),(.int 0 0),(.int 0 0),(.ref 46),(.bool false),(.int 370 0),(.ref 47),.none,.none,.none,.none,(.int 383 0),(.int 3 0),(.str t178 384)]⟩),⟨[]⟩⟩
def y49 (w : World) : Obj := ⟨(.type "frame"),none,.plain,⟨[(some (.ref 48)),(some (.ref 3)),(some (.ref 45)),none,(some (.str t293 376)),none,(some (.ref 0))]⟩⟩
def y50 (w : World) : Obj := ⟨(.type "tuple"),none,(.seq ⟨[]⟩ 0),⟨[]⟩⟩
def y51 (w : World) : Obj := ⟨.none,none,(.fields ⟨[]⟩),⟨[]⟩⟩
def y52 (w : World) : Obj := ⟨(.type "tuple"),none,(.seq ⟨[(.str t295 393),(.str t296 394)]⟩ 0),⟨[]⟩⟩
def y53 (w : World) : Obj := ⟨(.type "tuple"),none,(.seq ⟨[]⟩ 0),⟨[]⟩⟩
def y54 (w : World) : Obj := ⟨.none,none,(.func { name := t259, qualname := t297, params := defArgs (inClass (top 2) 0), body := .stmts (defBody (inClass (top 2) 0)), scope := defScope (inClass (top 2) 0), globals := 0, closure := [], defaults := .none, kwdefaults := .none, doc := .none, pyModule := .none, annotations := none, code := .none, closureTuple := .none, builtins := 0 }),⟨[]⟩⟩
def y55 (w : World) : Obj := ⟨(.type "code"),none,(.fields ⟨[(.str t259 390),(.str t297 391),(.str t178 392),(.int 5 0),(.int 2 0),(.int 0 0),(.int 0 0),(.int 3 0),(.ref 50),(.bool true),(.int 370 0),(.ref 51),.none,(.ref 52),(.ref 53),(.ref 54),(.int 395 0),(.int 5 0),(.str t178 396)]⟩),⟨[]⟩⟩
def y56 (w : World) : Obj := ⟨(.type "function"),none,(.func { name := t259, qualname := t297, params := defArgs (inClass (top 2) 0), body := .stmts (defBody (inClass (top 2) 0)), scope := defScope (inClass (top 2) 0), globals := 3, closure := [], defaults := .none, kwdefaults := .none, doc := .none, pyModule := (.str t293 376), annotations := none, code := (.ref 55), closureTuple := .none, builtins := 0 }),⟨[]⟩⟩
def y57 (w : World) : Obj := ⟨(.type "tuple"),none,(.seq ⟨[(.str t296 398)]⟩ 0),⟨[]⟩⟩
def y58 (w : World) : Obj := ⟨(.type "dict"),none,(.dict ⟨[⟨hs w t244,(.str t244 385),(.str t293 376)⟩,⟨hs w t245,(.str t245 389),(.int 3 388)⟩,⟨hs w t259,(.str t259 397),(.ref 56)⟩,⟨hs w t250,(.str t250 399),(.ref 57)⟩,⟨hs w t252,(.str t252 401),(.ref 60)⟩,⟨hs w t1,(.str t1 402),.none⟩]⟩ 3),⟨[]⟩⟩
def y59 (w : World) : Obj := ⟨(.type "type"),none,(.cls { name := t284, bases := [(.type "ValueError")], mro := [(.ref 59),(.type "ValueError"),(.type "Exception"),(.type "BaseException"),(.type "object")], ns := 58, qualname := t284, hasDict := true, slotNames := [], subclasses := [(.ref 72),(.ref 84),(.ref 96),(.ref 108),(.ref 120),(.ref 132),(.ref 144),(.ref 156)], abstract := false, collection := none, hasDel := false }),⟨[(some (.ref 43)),none,(some (.str t284 378)),(some (.str t284 386)),(some (.builtin "ValueError.__new__")),(some (.bool true))]⟩⟩
def y60 (w : World) : Obj := ⟨(.type "getset_descriptor"),none,(.fields ⟨[(.str t252 400),(.ref 59),(.builtin "ExceptionGroup.__weakref__"),.none]⟩),⟨[]⟩⟩
def y61 (w : World) : Obj := ⟨(.type "super"),none,(.fields ⟨[(.ref 59),(.ref 59),(.ref 59)]⟩),⟨[]⟩⟩
def y62 (w : World) : Obj := ⟨(.type "builtin_function_or_method"),none,(.fields ⟨[(.builtin "object.__init_subclass__"),(.ref 59)]⟩),⟨[]⟩⟩
def y63 (w : World) : Obj := ⟨(.type "tuple"),none,(.seq ⟨[(.ref 59)]⟩ 0),⟨[]⟩⟩
def y64 (w : World) : Obj := ⟨(.type "builtin_function_or_method"),none,(.fields ⟨[(.builtin "type.__prepare__"),(.type "type")]⟩),⟨[]⟩⟩
def y65 (w : World) : Obj := ⟨(.type "dict"),none,(.dict ⟨[⟨hs w t244,(.str t244 412),(.str t293 376)⟩,⟨hs w t294,(.str t294 414),(.str t285 413)⟩,⟨hs w t245,(.str t245 416),(.int 7 415)⟩,⟨hs w t250,(.str t250 417),(.ref 70)⟩]⟩ 4),⟨[]⟩⟩
def y66 (w : World) : Obj := ⟨(.type "tuple"),none,(.seq ⟨[]⟩ 0),⟨[]⟩⟩
def y67 (w : World) : Obj := ⟨.none,none,(.fields ⟨[]⟩),⟨[]⟩⟩
def y68 (w : World) : Obj := ⟨(.type "code"),none,(.fields ⟨[(.str t285 407),(.str t285 408),(.str t178 409),(.int 7 0),(.int 0 0),(.int 0 0),(.int 0 0),(.int 0 0),(.ref 66),(.bool false),(.int 370 0),(.ref 67),.none,.none,.none,.none,(.int 410 0),(.int 7 0),(.str t178 411)]⟩),⟨[]⟩⟩
def y69 (w : World) : Obj := ⟨(.type "frame"),none,.plain,⟨[(some (.ref 68)),(some (.ref 3)),(some (.ref 65)),none,(some (.str t293 376)),none,(some (.ref 0))]⟩⟩
def y70 (w : World) : Obj := ⟨(.type "tuple"),none,(.seq ⟨[]⟩ 0),⟨[]⟩⟩
def y71 (w : World) : Obj := ⟨(.type "dict"),none,(.dict ⟨[⟨hs w t244,(.str t244 412),(.str t293 376)⟩,⟨hs w t245,(.str t245 416),(.int 7 415)⟩,⟨hs w t250,(.str t250 417),(.ref 70)⟩,⟨hs w t1,(.str t1 418),.none⟩]⟩ 2),⟨[]⟩⟩
def y72 (w : World) : Obj := ⟨(.type "type"),none,(.cls { name := t285, bases := [(.ref 59)], mro := [(.ref 72),(.ref 59),(.type "ValueError"),(.type "Exception"),(.type "BaseException"),(.type "object")], ns := 71, qualname := t285, hasDict := true, slotNames := [], subclasses := [], abstract := false, collection := none, hasDel := false }),⟨[(some (.ref 63)),none,(some (.str t285 405)),(some (.str t285 413)),(some (.builtin "ValueError.__new__")),(some (.bool true))]⟩⟩
def y73 (w : World) : Obj := ⟨(.type "super"),none,(.fields ⟨[(.ref 72),(.ref 72),(.ref 72)]⟩),⟨[]⟩⟩
def y74 (w : World) : Obj := ⟨(.type "builtin_function_or_method"),none,(.fields ⟨[(.builtin "object.__init_subclass__"),(.ref 72)]⟩),⟨[]⟩⟩
def y75 (w : World) : Obj := ⟨(.type "tuple"),none,(.seq ⟨[(.ref 59)]⟩ 0),⟨[]⟩⟩
def y76 (w : World) : Obj := ⟨(.type "builtin_function_or_method"),none,(.fields ⟨[(.builtin "type.__prepare__"),(.type "type")]⟩),⟨[]⟩⟩
def y77 (w : World) : Obj := ⟨(.type "dict"),none,(.dict ⟨[⟨hs w t244,(.str t244 428),(.str t293 376)⟩,⟨hs w t294,(.str t294 430),(.str t286 429)⟩,⟨hs w t245,(.str t245 432),(.int 9 431)⟩,⟨hs w t250,(.str t250 433),(.ref 82)⟩]⟩ 4),⟨[]⟩⟩
def y78 (w : World) : Obj := ⟨(.type "tuple"),none,(.seq ⟨[]⟩ 0),⟨[]⟩⟩
def y79 (w : World) : Obj := ⟨.none,none,(.fields ⟨[]⟩),⟨[]⟩⟩
def y80 (w : World) : Obj := ⟨(.type "code"),none,(.fields ⟨[(.str t286 423),(.str t286 424),(.str t178 425),(.int 9 0),(.int 0 0),(.int 0 0),(.int 0 0),(.int 0 0),(.ref 78),(.bool false),(.int 370 0),(.ref 79),.none,.none,.none,.none,(.int 426 0),(.int 9 0),(.str t178 427)]⟩),⟨[]⟩⟩
def y81 (w : World) : Obj := ⟨(.type "frame"),none,.plain,⟨[(some (.ref 80)),(some (.ref 3)),(some (.ref 77)),none,(some (.str t293 376)),none,(some (.ref 0))]⟩⟩
def y82 (w : World) : Obj := ⟨(.type "tuple"),none,(.seq ⟨[]⟩ 0),⟨[]⟩⟩
def y83 (w : World) : Obj := ⟨(.type "dict"),none,(.dict ⟨[⟨hs w t244,(.str t244 428),(.str t293 376)⟩,⟨hs w t245,(.str t245 432),(.int 9 431)⟩,⟨hs w t250,(.str t250 433),(.ref 82)⟩,⟨hs w t1,(.str t1 434),.none⟩]⟩ 2),⟨[]⟩⟩
def y84 (w : World) : Obj := ⟨(.type "type"),none,(.cls { name := t286, bases := [(.ref 59)], mro := [(.ref 84),(.ref 59),(.type "ValueError"),(.type "Exception"),(.type "BaseException"),(.type "object")], ns := 83, qualname := t286, hasDict := true, slotNames := [], subclasses := [], abstract := false, collection := none, hasDel := false }),⟨[(some (.ref 75)),none,(some (.str t286 421)),(some (.str t286 429)),(some (.builtin "ValueError.__new__")),(some (.bool true))]⟩⟩
def y85 (w : World) : Obj := ⟨(.type "super"),none,(.fields ⟨[(.ref 84),(.ref 84),(.ref 84)]⟩),⟨[]⟩⟩
def y86 (w : World) : Obj := ⟨(.type "builtin_function_or_method"),none,(.fields ⟨[(.builtin "object.__init_subclass__"),(.ref 84)]⟩),⟨[]⟩⟩
def y87 (w : World) : Obj := ⟨(.type "tuple"),none,(.seq ⟨[(.ref 59)]⟩ 0),⟨[]⟩⟩
def y88 (w : World) : Obj := ⟨(.type "builtin_function_or_method"),none,(.fields ⟨[(.builtin "type.__prepare__"),(.type "type")]⟩),⟨[]⟩⟩
def y89 (w : World) : Obj := ⟨(.type "dict"),none,(.dict ⟨[⟨hs w t244,(.str t244 444),(.str t293 376)⟩,⟨hs w t294,(.str t294 446),(.str t287 445)⟩,⟨hs w t245,(.str t245 448),(.int 11 447)⟩,⟨hs w t250,(.str t250 449),(.ref 94)⟩]⟩ 4),⟨[]⟩⟩
def y90 (w : World) : Obj := ⟨(.type "tuple"),none,(.seq ⟨[]⟩ 0),⟨[]⟩⟩
def y91 (w : World) : Obj := ⟨.none,none,(.fields ⟨[]⟩),⟨[]⟩⟩
def y92 (w : World) : Obj := ⟨(.type "code"),none,(.fields ⟨[(.str t287 439),(.str t287 440),(.str t178 441),(.int 11 0),(.int 0 0),(.int 0 0),(.int 0 0),(.int 0 0),(.ref 90),(.bool false),(.int 370 0),(.ref 91),.none,.none,.none,.none,(.int 442 0),(.int 11 0),(.str t178 443)]⟩),⟨[]⟩⟩
def y93 (w : World) : Obj := ⟨(.type "frame"),none,.plain,⟨[(some (.ref 92)),(some (.ref 3)),(some (.ref 89)),none,(some (.str t293 376)),none,(some (.ref 0))]⟩⟩
def y94 (w : World) : Obj := ⟨(.type "tuple"),none,(.seq ⟨[]⟩ 0),⟨[]⟩⟩
def y95 (w : World) : Obj := ⟨(.type "dict"),none,(.dict ⟨[⟨hs w t244,(.str t244 444),(.str t293 376)⟩,⟨hs w t245,(.str t245 448),(.int 11 447)⟩,⟨hs w t250,(.str t250 449),(.ref 94)⟩,⟨hs w t1,(.str t1 450),.none⟩]⟩ 2),⟨[]⟩⟩
def y96 (w : World) : Obj := ⟨(.type "type"),none,(.cls { name := t287, bases := [(.ref 59)], mro := [(.ref 96),(.ref 59),(.type "ValueError"),(.type "Exception"),(.type "BaseException"),(.type "object")], ns := 95, qualname := t287, hasDict := true, slotNames := [], subclasses := [], abstract := false, collection := none, hasDel := false }),⟨[(some (.ref 87)),none,(some (.str t287 437)),(some (.str t287 445)),(some (.builtin "ValueError.__new__")),(some (.bool true))]⟩⟩
def y97 (w : World) : Obj := ⟨(.type "super"),none,(.fields ⟨[(.ref 96),(.ref 96),(.ref 96)]⟩),⟨[]⟩⟩
def y98 (w : World) : Obj := ⟨(.type "builtin_function_or_method"),none,(.fields ⟨[(.builtin "object.__init_subclass__"),(.ref 96)]⟩),⟨[]⟩⟩
def y99 (w : World) : Obj := ⟨(.type "tuple"),none,(.seq ⟨[(.ref 59)]⟩ 0),⟨[]⟩⟩
def y100 (w : World) : Obj := ⟨(.type "builtin_function_or_method"),none,(.fields ⟨[(.builtin "type.__prepare__"),(.type "type")]⟩),⟨[]⟩⟩
def y101 (w : World) : Obj := ⟨(.type "dict"),none,(.dict ⟨[⟨hs w t244,(.str t244 460),(.str t293 376)⟩,⟨hs w t294,(.str t294 462),(.str t288 461)⟩,⟨hs w t245,(.str t245 464),(.int 13 463)⟩,⟨hs w t250,(.str t250 465),(.ref 106)⟩]⟩ 4),⟨[]⟩⟩
def y102 (w : World) : Obj := ⟨(.type "tuple"),none,(.seq ⟨[]⟩ 0),⟨[]⟩⟩
def y103 (w : World) : Obj := ⟨.none,none,(.fields ⟨[]⟩),⟨[]⟩⟩
def y104 (w : World) : Obj := ⟨(.type "code"),none,(.fields ⟨[(.str t288 455),(.str t288 456),(.str t178 457),(.int 13 0),(.int 0 0),(.int 0 0),(.int 0 0),(.int 0 0),(.ref 102),(.bool false),(.int 370 0),(.ref 103),.none,.none,.none,.none,(.int 458 0),(.int 13 0),(.str t178 459)]⟩),⟨[]⟩⟩
def y105 (w : World) : Obj := ⟨(.type "frame"),none,.plain,⟨[(some (.ref 104)),(some (.ref 3)),(some (.ref 101)),none,(some (.str t293 376)),none,(some (.ref 0))]⟩⟩
def y106 (w : World) : Obj := ⟨(.type "tuple"),none,(.seq ⟨[]⟩ 0),⟨[]⟩⟩
def y107 (w : World) : Obj := ⟨(.type "dict"),none,(.dict ⟨[⟨hs w t244,(.str t244 460),(.str t293 376)⟩,⟨hs w t245,(.str t245 464),(.int 13 463)⟩,⟨hs w t250,(.str t250 465),(.ref 106)⟩,⟨hs w t1,(.str t1 466),.none⟩]⟩ 2),⟨[]⟩⟩
def y108 (w : World) : Obj := ⟨(.type "type"),none,(.cls { name := t288, bases := [(.ref 59)], mro := [(.ref 108),(.ref 59),(.type "ValueError"),(.type "Exception"),(.type "BaseException"),(.type "object")], ns := 107, qualname := t288, hasDict := true, slotNames := [], subclasses := [], abstract := false, collection := none, hasDel := false }),⟨[(some (.ref 99)),none,(some (.str t288 453)),(some (.str t288 461)),(some (.builtin "ValueError.__new__")),(some (.bool true))]⟩⟩
def y109 (w : World) : Obj := ⟨(.type "super"),none,(.fields ⟨[(.ref 108),(.ref 108),(.ref 108)]⟩),⟨[]⟩⟩
def y110 (w : World) : Obj := ⟨(.type "builtin_function_or_method"),none,(.fields ⟨[(.builtin "object.__init_subclass__"),(.ref 108)]⟩),⟨[]⟩⟩
def y111 (w : World) : Obj := ⟨(.type "tuple"),none,(.seq ⟨[(.ref 59)]⟩ 0),⟨[]⟩⟩
def y112 (w : World) : Obj := ⟨(.type "builtin_function_or_method"),none,(.fields ⟨[(.builtin "type.__prepare__"),(.type "type")]⟩),⟨[]⟩⟩
def y113 (w : World) : Obj := ⟨(.type "dict"),none,(.dict ⟨[⟨hs w t244,(.str t244 476),(.str t293 376)⟩,⟨hs w t294,(.str t294 478),(.str t289 477)⟩,⟨hs w t245,(.str t245 480),(.int 15 479)⟩,⟨hs w t250,(.str t250 481),(.ref 118)⟩]⟩ 4),⟨[]⟩⟩
def y114 (w : World) : Obj := ⟨(.type "tuple"),none,(.seq ⟨[]⟩ 0),⟨[]⟩⟩
def y115 (w : World) : Obj := ⟨.none,none,(.fields ⟨[]⟩),⟨[]⟩⟩
def y116 (w : World) : Obj := ⟨(.type "code"),none,(.fields ⟨[(.str t289 471),(.str t289 472),(.str t178 473),(.int 15 0),(.int 0 0),(.int 0 0),(.int 0 0),(.int 0 0),(.ref 114),(.bool false),(.int 370 0),(.ref 115),.none,.none,.none,.none,(.int 474 0),(.int 15 0),(.str t178 475)]⟩),⟨[]⟩⟩
def y117 (w : World) : Obj := ⟨(.type "frame"),none,.plain,⟨[(some (.ref 116)),(some (.ref 3)),(some (.ref 113)),none,(some (.str t293 376)),none,(some (.ref 0))]⟩⟩
def y118 (w : World) : Obj := ⟨(.type "tuple"),none,(.seq ⟨[]⟩ 0),⟨[]⟩⟩
def y119 (w : World) : Obj := ⟨(.type "dict"),none,(.dict ⟨[⟨hs w t244,(.str t244 476),(.str t293 376)⟩,⟨hs w t245,(.str t245 480),(.int 15 479)⟩,⟨hs w t250,(.str t250 481),(.ref 118)⟩,⟨hs w t1,(.str t1 482),.none⟩]⟩ 2),⟨[]⟩⟩
def y120 (w : World) : Obj := ⟨(.type "type"),none,(.cls { name := t289, bases := [(.ref 59)], mro := [(.ref 120),(.ref 59),(.type "ValueError"),(.type "Exception"),(.type "BaseException"),(.type "object")], ns := 119, qualname := t289, hasDict := true, slotNames := [], subclasses := [], abstract := false, collection := none, hasDel := false }),⟨[(some (.ref 111)),none,(some (.str t289 469)),(some (.str t289 477)),(some (.builtin "ValueError.__new__")),(some (.bool true))]⟩⟩
def y121 (w : World) : Obj := ⟨(.type "super"),none,(.fields ⟨[(.ref 120),(.ref 120),(.ref 120)]⟩),⟨[]⟩⟩
def y122 (w : World) : Obj := ⟨(.type "builtin_function_or_method"),none,(.fields ⟨[(.builtin "object.__init_subclass__"),(.ref 120)]⟩),⟨[]⟩⟩
def y123 (w : World) : Obj := ⟨(.type "tuple"),none,(.seq ⟨[(.ref 59)]⟩ 0),⟨[]⟩⟩
def y124 (w : World) : Obj := ⟨(.type "builtin_function_or_method"),none,(.fields ⟨[(.builtin "type.__prepare__"),(.type "type")]⟩),⟨[]⟩⟩
def y125 (w : World) : Obj := ⟨(.type "dict"),none,(.dict ⟨[⟨hs w t244,(.str t244 492),(.str t293 376)⟩,⟨hs w t294,(.str t294 494),(.str t290 493)⟩,⟨hs w t245,(.str t245 496),(.int 17 495)⟩,⟨hs w t250,(.str t250 497),(.ref 130)⟩]⟩ 4),⟨[]⟩⟩
def y126 (w : World) : Obj := ⟨(.type "tuple"),none,(.seq ⟨[]⟩ 0),⟨[]⟩⟩
def y127 (w : World) : Obj := ⟨.none,none,(.fields ⟨[]⟩),⟨[]⟩⟩
def y128 (w : World) : Obj := ⟨(.type "code"),none,(.fields ⟨[(.str t290 487),(.str t290 488),(.str t178 489),(.int 17 0),(.int 0 0),(.int 0 0),(.int 0 0),(.int 0 0),(.ref 126),(.bool false),(.int 370 0),(.ref 127),.none,.none,.none,.none,(.int 490 0),(.int 17 0),(.str t178 491)]⟩),⟨[]⟩⟩
def y129 (w : World) : Obj := ⟨(.type "frame"),none,.plain,⟨[(some (.ref 128)),(some (.ref 3)),(some (.ref 125)),none,(some (.str t293 376)),none,(some (.ref 0))]⟩⟩
def y130 (w : World) : Obj := ⟨(.type "tuple"),none,(.seq ⟨[]⟩ 0),⟨[]⟩⟩
def y131 (w : World) : Obj := ⟨(.type "dict"),none,(.dict ⟨[⟨hs w t244,(.str t244 492),(.str t293 376)⟩,⟨hs w t245,(.str t245 496),(.int 17 495)⟩,⟨hs w t250,(.str t250 497),(.ref 130)⟩,⟨hs w t1,(.str t1 498),.none⟩]⟩ 2),⟨[]⟩⟩
def y132 (w : World) : Obj := ⟨(.type "type"),none,(.cls { name := t290, bases := [(.ref 59)], mro := [(.ref 132),(.ref 59),(.type "ValueError"),(.type "Exception"),(.type "BaseException"),(.type "object")], ns := 131, qualname := t290, hasDict := true, slotNames := [], subclasses := [], abstract := false, collection := none, hasDel := false }),⟨[(some (.ref 123)),none,(some (.str t290 485)),(some (.str t290 493)),(some (.builtin "ValueError.__new__")),(some (.bool true))]⟩⟩
def y133 (w : World) : Obj := ⟨(.type "super"),none,(.fields ⟨[(.ref 132),(.ref 132),(.ref 132)]⟩),⟨[]⟩⟩
def y134 (w : World) : Obj := ⟨(.type "builtin_function_or_method"),none,(.fields ⟨[(.builtin "object.__init_subclass__"),(.ref 132)]⟩),⟨[]⟩⟩
def y135 (w : World) : Obj := ⟨(.type "tuple"),none,(.seq ⟨[(.ref 59)]⟩ 0),⟨[]⟩⟩
def y136 (w : World) : Obj := ⟨(.type "builtin_function_or_method"),none,(.fields ⟨[(.builtin "type.__prepare__"),(.type "type")]⟩),⟨[]⟩⟩
def y137 (w : World) : Obj := ⟨(.type "dict"),none,(.dict ⟨[⟨hs w t244,(.str t244 508),(.str t293 376)⟩,⟨hs w t294,(.str t294 510),(.str t291 509)⟩,⟨hs w t245,(.str t245 512),(.int 19 511)⟩,⟨hs w t250,(.str t250 513),(.ref 142)⟩]⟩ 4),⟨[]⟩⟩
def y138 (w : World) : Obj := ⟨(.type "tuple"),none,(.seq ⟨[]⟩ 0),⟨[]⟩⟩
def y139 (w : World) : Obj := ⟨.none,none,(.fields ⟨[]⟩),⟨[]⟩⟩
def y140 (w : World) : Obj := ⟨(.type "code"),none,(.fields ⟨[(.str t291 503),(.str t291 504),(.str t178 505),(.int 19 0),(.int 0 0),(.int 0 0),(.int 0 0),(.int 0 0),(.ref 138),(.bool false),(.int 370 0),(.ref 139),.none,.none,.none,.none,(.int 506 0),(.int 19 0),(.str t178 507)]⟩),⟨[]⟩⟩
def y141 (w : World) : Obj := ⟨(.type "frame"),none,.plain,⟨[(some (.ref 140)),(some (.ref 3)),(some (.ref 137)),none,(some (.str t293 376)),none,(some (.ref 0))]⟩⟩
def y142 (w : World) : Obj := ⟨(.type "tuple"),none,(.seq ⟨[]⟩ 0),⟨[]⟩⟩
def y143 (w : World) : Obj := ⟨(.type "dict"),none,(.dict ⟨[⟨hs w t244,(.str t244 508),(.str t293 376)⟩,⟨hs w t245,(.str t245 512),(.int 19 511)⟩,⟨hs w t250,(.str t250 513),(.ref 142)⟩,⟨hs w t1,(.str t1 514),.none⟩]⟩ 2),⟨[]⟩⟩
def y144 (w : World) : Obj := ⟨(.type "type"),none,(.cls { name := t291, bases := [(.ref 59)], mro := [(.ref 144),(.ref 59),(.type "ValueError"),(.type "Exception"),(.type "BaseException"),(.type "object")], ns := 143, qualname := t291, hasDict := true, slotNames := [], subclasses := [], abstract := false, collection := none, hasDel := false }),⟨[(some (.ref 135)),none,(some (.str t291 501)),(some (.str t291 509)),(some (.builtin "ValueError.__new__")),(some (.bool true))]⟩⟩
def y145 (w : World) : Obj := ⟨(.type "super"),none,(.fields ⟨[(.ref 144),(.ref 144),(.ref 144)]⟩),⟨[]⟩⟩
def y146 (w : World) : Obj := ⟨(.type "builtin_function_or_method"),none,(.fields ⟨[(.builtin "object.__init_subclass__"),(.ref 144)]⟩),⟨[]⟩⟩
def y147 (w : World) : Obj := ⟨(.type "tuple"),none,(.seq ⟨[(.ref 59)]⟩ 0),⟨[]⟩⟩
def y148 (w : World) : Obj := ⟨(.type "builtin_function_or_method"),none,(.fields ⟨[(.builtin "type.__prepare__"),(.type "type")]⟩),⟨[]⟩⟩
def y149 (w : World) : Obj := ⟨(.type "dict"),none,(.dict ⟨[⟨hs w t244,(.str t244 524),(.str t293 376)⟩,⟨hs w t294,(.str t294 526),(.str t292 525)⟩,⟨hs w t245,(.str t245 528),(.int 21 527)⟩,⟨hs w t250,(.str t250 529),(.ref 154)⟩]⟩ 4),⟨[]⟩⟩
def y150 (w : World) : Obj := ⟨(.type "tuple"),none,(.seq ⟨[]⟩ 0),⟨[]⟩⟩
def y151 (w : World) : Obj := ⟨.none,none,(.fields ⟨[]⟩),⟨[]⟩⟩
def y152 (w : World) : Obj := ⟨(.type "code"),none,(.fields ⟨[(.str t292 519),(.str t292 520),(.str t178 521),(.int 21 0),(.int 0 0),(.int 0 0),(.int 0 0),(.int 0 0),(.ref 150),(.bool false),(.int 370 0),(.ref 151),.none,.none,.none,.none,(.int 522 0),(.int 21 0),(.str t178 523)]⟩),⟨[]⟩⟩
def y153 (w : World) : Obj := ⟨(.type "frame"),none,.plain,⟨[(some (.ref 152)),(some (.ref 3)),(some (.ref 149)),none,(some (.str t293 376)),none,(some (.ref 0))]⟩⟩
def y154 (w : World) : Obj := ⟨(.type "tuple"),none,(.seq ⟨[]⟩ 0),⟨[]⟩⟩
def y155 (w : World) : Obj := ⟨(.type "dict"),none,(.dict ⟨[⟨hs w t244,(.str t244 524),(.str t293 376)⟩,⟨hs w t245,(.str t245 528),(.int 21 527)⟩,⟨hs w t250,(.str t250 529),(.ref 154)⟩,⟨hs w t1,(.str t1 530),.none⟩]⟩ 2),⟨[]⟩⟩
def y156 (w : World) : Obj := ⟨(.type "type"),none,(.cls { name := t292, bases := [(.ref 59)], mro := [(.ref 156),(.ref 59),(.type "ValueError"),(.type "Exception"),(.type "BaseException"),(.type "object")], ns := 155, qualname := t292, hasDict := true, slotNames := [], subclasses := [], abstract := false, collection := none, hasDel := false }),⟨[(some (.ref 147)),none,(some (.str t292 517)),(some (.str t292 525)),(some (.builtin "ValueError.__new__")),(some (.bool true))]⟩⟩
def y157 (w : World) : Obj := ⟨(.type "super"),none,(.fields ⟨[(.ref 156),(.ref 156),(.ref 156)]⟩),⟨[]⟩⟩
def y158 (w : World) : Obj := ⟨(.type "builtin_function_or_method"),none,(.fields ⟨[(.builtin "object.__init_subclass__"),(.ref 156)]⟩),⟨[]⟩⟩
def tree1 (w : World) : PySem.W.BT := (.node (y0 w) (.node (y1 w) (.node (y3_1 w) (.node (y7 w) (.node (y15 w) (.node (y31 w) (.node (y63 w) (.node (y127 w) .nil .nil) .nil) (.node (y95 w) .nil .nil)) (.node (y47 w) (.node (y79 w) (.node (y143 w) .nil .nil) .nil) (.node (y111 w) .nil .nil))) (.node (y23 w) (.node (y39 w) (.node (y71 w) (.node (y135 w) .nil .nil) .nil) (.node (y103 w) .nil .nil)) (.node (y55 w) (.node (y87 w) (.node (y151 w) .nil .nil) .nil) (.node (y119 w) .nil .nil)))) (.node (y11 w) (.node (y19 w) (.node (y35 w) (.node (y67 w) (.node (y131 w) .nil .nil) .nil) (.node (y99 w) .nil .nil)) (.node (y51 w) (.node (y83 w) (.node (y147 w) .nil .nil) .nil) (.node (y115 w) .nil .nil))) (.node (y27 w) (.node (y43 w) (.node (y75 w) (.node (y139 w) .nil .nil) .nil) (.node (y107 w) .nil .nil)) (.node (y59 w) (.node (y91 w) (.node (y155 w) .nil .nil) .nil) (.node (y123 w) .nil .nil))))) (.node (y5 w) (.node (y9 w) (.node (y17 w) (.node (y33 w) (.node (y65 w) (.node (y129 w) .nil .nil) .nil) (.node (y97 w) .nil .nil)) (.node (y49 w) (.node (y81 w) (.node (y145 w) .nil .nil) .nil) (.node (y113 w) .nil .nil))) (.node (y25 w) (.node (y41 w) (.node (y73 w) (.node (y137 w) .nil .nil) .nil) (.node (y105 w) .nil .nil)) (.node (y57 w) (.node (y89 w) (.node (y153 w) .nil .nil) .nil) (.node (y121 w) .nil .nil)))) (.node (y13 w) (.node (y21 w) (.node (y37 w) (.node (y69 w) (.node (y133 w) .nil .nil) .nil) (.node (y101 w) .nil .nil)) (.node (y53 w) (.node (y85 w) (.node (y149 w) .nil .nil) .nil) (.node (y117 w) .nil .nil))) (.node (y29 w) (.node (y45 w) (.node (y77 w) (.node (y141 w) .nil .nil) .nil) (.node (y109 w) .nil .nil)) (.node (y61 w) (.node (y93 w) (.node (y157 w) .nil .nil) .nil) (.node (y125 w) .nil .nil)))))) (.node (y2 w) (.node (y4 w) (.node (y8 w) (.node (y16 w) (.node (y32 w) (.node (y64 w) (.node (y128 w) .nil .nil) .nil) (.node (y96 w) .nil .nil)) (.node (y48 w) (.node (y80 w) (.node (y144 w) .nil .nil) .nil) (.node (y112 w) .nil .nil))) (.node (y24 w) (.node (y40 w) (.node (y72 w) (.node (y136 w) .nil .nil) .nil) (.node (y104 w) .nil .nil)) (.node (y56 w) (.node (y88 w) (.node (y152 w) .nil .nil) .nil) (.node (y120 w) .nil .nil)))) (.node (y12 w) (.node (y20 w) (.node (y36 w) (.node (y68 w) (.node (y132 w) .nil .nil) .nil) (.node (y100 w) .nil .nil)) (.node (y52 w) (.node (y84 w) (.node (y148 w) .nil .nil) .nil) (.node (y116 w) .nil .nil))) (.node (y28 w) (.node (y44 w) (.node (y76 w) (.node (y140 w) .nil .nil) .nil) (.node (y108 w) .nil .nil)) (.node (y60 w) (.node (y92 w) (.node (y156 w) .nil .nil) .nil) (.node (y124 w) .nil .nil))))) (.node (y6 w) (.node (y10 w) (.node (y18 w) (.node (y34 w) (.node (y66 w) (.node (y130 w) .nil .nil) .nil) (.node (y98 w) .nil .nil)) (.node (y50 w) (.node (y82 w) (.node (y146 w) .nil .nil) .nil) (.node (y114 w) .nil .nil))) (.node (y26 w) (.node (y42 w) (.node (y74 w) (.node (y138 w) .nil .nil) .nil) (.node (y106 w) .nil .nil)) (.node (y58 w) (.node (y90 w) (.node (y154 w) .nil .nil) .nil) (.node (y122 w) .nil .nil)))) (.node (y14 w) (.node (y22 w) (.node (y38 w) (.node (y70 w) (.node (y134 w) .nil .nil) .nil) (.node (y102 w) .nil .nil)) (.node (y54 w) (.node (y86 w) (.node (y150 w) .nil .nil) .nil) (.node (y118 w) .nil .nil))) (.node (y30 w) (.node (y46 w) (.node (y78 w) (.node (y142 w) .nil .nil) .nil) (.node (y110 w) .nil .nil)) (.node (y62 w) (.node (y94 w) (.node (y158 w) .nil .nil) .nil) (.node (y126 w) .nil .nil)))))))
def st1 (w : World) : PySem.W.SharedT := ⟨tree1 w, 159, life0, #[], ⟨0,0,0,0⟩, 533, (start (opening R.prog)).1.os⟩
def y3_2 (w : World) : Obj := ⟨(.type "dict"),none,(.dict ⟨[⟨hs w t0,(.str t0 165),(.str t318 694)⟩,⟨hs w t1,(.str t1 166),.none⟩,⟨hs w t2,(.str t2 167),.none⟩,⟨hs w t3,(.str t3 168),(.builtin "__main__.__loader__#opaque")⟩,⟨hs w t4,(.str t4 169),.none⟩,⟨hs w t173,(.str t173 170),(.ref 6)⟩,⟨hs w t174,(.str t174 171),(.ref 4)⟩,⟨hs w t175,(.str t175 173),(.str t178 172)⟩,⟨hs w t176,(.str t176 174),.none⟩,⟨hs w t177,(.str t177 369),(.builtin "math.gcd")⟩,⟨hs w t284,(.str t284 404),(.ref 59)⟩,⟨hs w t285,(.str t285 420),(.ref 72)⟩,⟨hs w t286,(.str t286 436),(.ref 84)⟩,⟨hs w t287,(.str t287 452),(.ref 96)⟩,⟨hs w t288,(.str t288 468),(.ref 108)⟩,⟨hs w t289,(.str t289 484),(.ref 120)⟩,⟨hs w t290,(.str t290 500),(.ref 132)⟩,⟨hs w t291,(.str t291 516),(.ref 144)⟩,⟨hs w t292,(.str t292 532),(.ref 156)⟩,⟨hs w t298,(.str t298 548),(.ref 168)⟩,⟨hs w t299,(.str t299 564),(.ref 180)⟩,⟨hs w t300,(.str t300 580),(.ref 192)⟩,⟨hs w t301,(.str t301 596),(.ref 204)⟩,⟨hs w t302,(.str t302 612),(.ref 216)⟩,⟨hs w t303,(.str t303 628),(.ref 228)⟩,⟨hs w t304,(.str t304 644),(.ref 240)⟩,⟨hs w t305,(.str t305 653),(.ref 249)⟩,⟨hs w t306,(.str t306 660),(.ref 256)⟩,⟨hs w t307,(.str t307 669),(.ref 263)⟩,⟨hs w t308,(.str t308 677),(.ref 270)⟩,⟨hs w t309,(.str t309 685),(.ref 277)⟩,⟨hs w t310,(.str t310 693),(.ref 284)⟩,⟨hs w t311,(.str t311 704),(.ref 291)⟩,⟨hs w t312,(.str t312 715),(.ref 298)⟩,⟨hs w t313,(.str t313 722),(.ref 305)⟩,⟨hs w t314,(.str t314 730),(.ref 312)⟩,⟨hs w t315,(.str t315 738),(.ref 319)⟩,⟨hs w t316,(.str t316 750),(.ref 326)⟩,⟨hs w t317,(.str t317 756),(.ref 331)⟩]⟩ 39),⟨[]⟩⟩
def y40_1 (w : World) : Obj := ⟨.none,none,(.fields ⟨[(.int 3 0),(.int 0 0),(.ref 48),(.int 7 0),(.int 0 0),(.ref 68),(.int 9 0),(.int 0 0),(.ref 80),(.int 11 0),(.int 0 0),(.ref 92),(.int 13 0),(.int 0 0),(.ref 104),(.int 15 0),(.int 0 0),(.ref 116),(.int 17 0),(.int 0 0),(.ref 128),(.int 19 0),(.int 0 0),(.ref 140),(.int 21 0),(.int 0 0),(.ref 152),(.int 23 0),(.int 0 0),(.ref 164),(.int 25 0),(.int 0 0),(.ref 176),(.int 27 0),(.int 0 0),(.ref 188),(.int 29 0),(.int 0 0),(.ref 200),(.int 31 0),(.int 0 0),(.ref 212),(.int 33 0),(.int 0 0),(.ref 224),(.int 35 0),(.int 0 0),(.ref 236),(.int 38 0),(.int 0 0),(.ref 248),(.int 40 0),(.int 0 0),(.ref 255),(.int 42 0),(.int 0 0),(.ref 262),(.int 44 0),(.int 0 0),(.ref 269),(.int 46 0),(.int 0 0),(.ref 276),(.int 48 0),(.int 0 0),(.ref 283),(.int 51 0),(.int 0 0),(.ref 290),(.int 55 0),(.int 0 0),(.ref 297),(.int 64 0),(.int 0 0),(.ref 304),(.int 67 0),(.int 0 0),(.ref 311),(.int 70 0),(.int 0 0),(.ref 318),(.int 72 0),(.int 0 0),(.ref 325),(.int 82 0),(.int 0 0),(.ref 330)]⟩),⟨[]⟩⟩
def y59_1 (w : World) : Obj := ⟨(.type "type"),none,(.cls { name := t284, bases := [(.type "ValueError")], mro := [(.ref 59),(.type "ValueError"),(.type "Exception"),(.type "BaseException"),(.type "object")], ns := 58, qualname := t284, hasDict := true, slotNames := [], subclasses := [(.ref 72),(.ref 84),(.ref 96),(.ref 108),(.ref 120),(.ref 132),(.ref 144),(.ref 156),(.ref 168),(.ref 180),(.ref 192),(.ref 204),(.ref 216),(.ref 228),(.ref 240)], abstract := false, collection := none, hasDel := false }),⟨[(some (.ref 43)),none,(some (.str t284 378)),(some (.str t284 386)),(some (.builtin "ValueError.__new__")),(some (.bool true))]⟩⟩
def y159 (w : World) : Obj := ⟨(.type "tuple"),none,(.seq ⟨[(.ref 59)]⟩ 0),⟨[]⟩⟩
def y160 (w : World) : Obj := ⟨(.type "builtin_function_or_method"),none,(.fields ⟨[(.builtin "type.__prepare__"),(.type "type")]⟩),⟨[]⟩⟩
def y161 (w : World) : Obj := ⟨(.type "dict"),none,(.dict ⟨[⟨hs w t244,(.str t244 540),(.str t293 376)⟩,⟨hs w t294,(.str t294 542),(.str t298 541)⟩,⟨hs w t245,(.str t245 544),(.int 23 543)⟩,⟨hs w t250,(.str t250 545),(.ref 166)⟩]⟩ 4),⟨[]⟩⟩
def y162 (w : World) : Obj := ⟨(.type "tuple"),none,(.seq ⟨[]⟩ 0),⟨[]⟩⟩
def y163 (w : World) : Obj := ⟨.none,none,(.fields ⟨[]⟩),⟨[]⟩⟩
def y164 (w : World) : Obj := ⟨(.type "code"),none,(.fields ⟨[(.str t298 535),(.str t298 536),(.str t178 537),(.int 23 0),(.int 0 0),(.int 0 0),(.int 0 0),(.int 0 0),(.ref 162),(.bool false),(.int 370 0),(.ref 163),.none,.none,.none,.none,(.int 538 0),(.int 23 0),(.str t178 539)]⟩),⟨[]⟩⟩
def y165 (w : World) : Obj := ⟨(.type "frame"),none,.plain,⟨[(some (.ref 164)),(some (.ref 3)),(some (.ref 161)),none,(some (.str t293 376)),none,(some (.ref 0))]⟩⟩
def y166 (w : World) : Obj := ⟨(.type "tuple"),none,(.seq ⟨[]⟩ 0),⟨[]⟩⟩
def y167 (w : World) : Obj := ⟨(.type "dict"),none,(.dict ⟨[⟨hs w t244,(.str t244 540),(.str t293 376)⟩,⟨hs w t245,(.str t245 544),(.int 23 543)⟩,⟨hs w t250,(.str t250 545),(.ref 166)⟩,⟨hs w t1,(.str t1 546),.none⟩]⟩ 2),⟨[]⟩⟩
def y168 (w : World) : Obj := ⟨(.type "type"),none,(.cls { name := t298, bases := [(.ref 59)], mro := [(.ref 168),(.ref 59),(.type "ValueError"),(.type "Exception"),(.type "BaseException"),(.type "object")], ns := 167, qualname := t298, hasDict := true, slotNames := [], subclasses := [], abstract := false, collection := none, hasDel := false }),⟨[(some (.ref 159)),none,(some (.str t298 533)),(some (.str t298 541)),(some (.builtin "ValueError.__new__")),(some (.bool true))]⟩⟩
def y169 (w : World) : Obj := ⟨(.type "super"),none,(.fields ⟨[(.ref 168),(.ref 168),(.ref 168)]⟩),⟨[]⟩⟩
def y170 (w : World) : Obj := ⟨(.type "builtin_function_or_method"),none,(.fields ⟨[(.builtin "object.__init_subclass__"),(.ref 168)]⟩),⟨[]⟩⟩
def y171 (w : World) : Obj := ⟨(.type "tuple"),none,(.seq ⟨[(.ref 59)]⟩ 0),⟨[]⟩⟩
def y172 (w : World) : Obj := ⟨(.type "builtin_function_or_method"),none,(.fields ⟨[(.builtin "type.__prepare__"),(.type "type")]⟩),⟨[]⟩⟩
def y173 (w : World) : Obj := ⟨(.type "dict"),none,(.dict ⟨[⟨hs w t244,(.str t244 556),(.str t293 376)⟩,⟨hs w t294,(.str t294 558),(.str t299 557)⟩,⟨hs w t245,(.str t245 560),(.int 25 559)⟩,⟨hs w t250,(.str t250 561),(.ref 178)⟩]⟩ 4),⟨[]⟩⟩
def y174 (w : World) : Obj := ⟨(.type "tuple"),none,(.seq ⟨[]⟩ 0),⟨[]⟩⟩
def y175 (w : World) : Obj := ⟨.none,none,(.fields ⟨[]⟩),⟨[]⟩⟩
def y176 (w : World) : Obj := ⟨(.type "code"),none,(.fields ⟨[(.str t299 551),(.str t299 552),(.str t178 553),(.int 25 0),(.int 0 0),(.int 0 0),(.int 0 0),(.int 0 0),(.ref 174),(.bool false),(.int 370 0),(.ref 175),.none,.none,.none,.none,(.int 554 0),(.int 25 0),(.str t178 555)]⟩),⟨[]⟩⟩
def y177 (w : World) : Obj := ⟨(.type "frame"),none,.plain,⟨[(some (.ref 176)),(some (.ref 3)),(some (.ref 173)),none,(some (.str t293 376)),none,(some (.ref 0))]⟩⟩
def y178 (w : World) : Obj := ⟨(.type "tuple"),none,(.seq ⟨[]⟩ 0),⟨[]⟩⟩
def y179 (w : World) : Obj := ⟨(.type "dict"),none,(.dict ⟨[⟨hs w t244,(.str t244 556),(.str t293 376)⟩,⟨hs w t245,(.str t245 560),(.int 25 559)⟩,⟨hs w t250,(.str t250 561),(.ref 178)⟩,⟨hs w t1,(.str t1 562),.none⟩]⟩ 2),⟨[]⟩⟩
def y180 (w : World) : Obj := ⟨(.type "type"),none,(.cls { name := t299, bases := [(.ref 59)], mro := [(.ref 180),(.ref 59),(.type "ValueError"),(.type "Exception"),(.type "BaseException"),(.type "object")], ns := 179, qualname := t299, hasDict := true, slotNames := [], subclasses := [], abstract := false, collection := none, hasDel := false }),⟨[(some (.ref 171)),none,(some (.str t299 549)),(some (.str t299 557)),(some (.builtin "ValueError.__new__")),(some (.bool true))]⟩⟩
def y181 (w : World) : Obj := ⟨(.type "super"),none,(.fields ⟨[(.ref 180),(.ref 180),(.ref 180)]⟩),⟨[]⟩⟩
def y182 (w : World) : Obj := ⟨(.type "builtin_function_or_method"),none,(.fields ⟨[(.builtin "object.__init_subclass__"),(.ref 180)]⟩),⟨[]⟩⟩
def y183 (w : World) : Obj := ⟨(.type "tuple"),none,(.seq ⟨[(.ref 59)]⟩ 0),⟨[]⟩⟩
def y184 (w : World) : Obj := ⟨(.type "builtin_function_or_method"),none,(.fields ⟨[(.builtin "type.__prepare__"),(.type "type")]⟩),⟨[]⟩⟩
def y185 (w : World) : Obj := ⟨(.type "dict"),none,(.dict ⟨[⟨hs w t244,(.str t244 572),(.str t293 376)⟩,⟨hs w t294,(.str t294 574),(.str t300 573)⟩,⟨hs w t245,(.str t245 576),(.int 27 575)⟩,⟨hs w t250,(.str t250 577),(.ref 190)⟩]⟩ 4),⟨[]⟩⟩
def y186 (w : World) : Obj := ⟨(.type "tuple"),none,(.seq ⟨[]⟩ 0),⟨[]⟩⟩
def y187 (w : World) : Obj := ⟨.none,none,(.fields ⟨[]⟩),⟨[]⟩⟩
def y188 (w : World) : Obj := ⟨(.type "code"),none,(.fields ⟨[(.str t300 567),(.str t300 568),(.str t178 569),(.int 27 0),(.int 0 0),(.int 0 0),(.int 0 0),(.int 0 0),(.ref 186),(.bool false),(.int 370 0),(.ref 187),.none,.none,.none,.none,(.int 570 0),(.int 27 0),(.str t178 571)]⟩),⟨[]⟩⟩
def y189 (w : World) : Obj := ⟨(.type "frame"),none,.plain,⟨[(some (.ref 188)),(some (.ref 3)),(some (.ref 185)),none,(some (.str t293 376)),none,(some (.ref 0))]⟩⟩
def y190 (w : World) : Obj := ⟨(.type "tuple"),none,(.seq ⟨[]⟩ 0),⟨[]⟩⟩
def y191 (w : World) : Obj := ⟨(.type "dict"),none,(.dict ⟨[⟨hs w t244,(.str t244 572),(.str t293 376)⟩,⟨hs w t245,(.str t245 576),(.int 27 575)⟩,⟨hs w t250,(.str t250 577),(.ref 190)⟩,⟨hs w t1,(.str t1 578),.none⟩]⟩ 2),⟨[]⟩⟩
def y192 (w : World) : Obj := ⟨(.type "type"),none,(.cls { name := t300, bases := [(.ref 59)], mro := [(.ref 192),(.ref 59),(.type "ValueError"),(.type "Exception"),(.type "BaseException"),(.type "object")], ns := 191, qualname := t300, hasDict := true, slotNames := [], subclasses := [], abstract := false, collection := none, hasDel := false }),⟨[(some (.ref 183)),none,(some (.str t300 565)),(some (.str t300 573)),(some (.builtin "ValueError.__new__")),(some (.bool true))]⟩⟩
def y193 (w : World) : Obj := ⟨(.type "super"),none,(.fields ⟨[(.ref 192),(.ref 192),(.ref 192)]⟩),⟨[]⟩⟩
def y194 (w : World) : Obj := ⟨(.type "builtin_function_or_method"),none,(.fields ⟨[(.builtin "object.__init_subclass__"),(.ref 192)]⟩),⟨[]⟩⟩
def y195 (w : World) : Obj := ⟨(.type "tuple"),none,(.seq ⟨[(.ref 59)]⟩ 0),⟨[]⟩⟩
def y196 (w : World) : Obj := ⟨(.type "builtin_function_or_method"),none,(.fields ⟨[(.builtin "type.__prepare__"),(.type "type")]⟩),⟨[]⟩⟩
def y197 (w : World) : Obj := ⟨(.type "dict"),none,(.dict ⟨[⟨hs w t244,(.str t244 588),(.str t293 376)⟩,⟨hs w t294,(.str t294 590),(.str t301 589)⟩,⟨hs w t245,(.str t245 592),(.int 29 591)⟩,⟨hs w t250,(.str t250 593),(.ref 202)⟩]⟩ 4),⟨[]⟩⟩
def y198 (w : World) : Obj := ⟨(.type "tuple"),none,(.seq ⟨[]⟩ 0),⟨[]⟩⟩
def y199 (w : World) : Obj := ⟨.none,none,(.fields ⟨[]⟩),⟨[]⟩⟩
def y200 (w : World) : Obj := ⟨(.type "code"),none,(.fields ⟨[(.str t301 583),(.str t301 584),(.str t178 585),(.int 29 0),(.int 0 0),(.int 0 0),(.int 0 0),(.int 0 0),(.ref 198),(.bool false),(.int 370 0),(.ref 199),.none,.none,.none,.none,(.int 586 0),(.int 29 0),(.str t178 587)]⟩),⟨[]⟩⟩
def y201 (w : World) : Obj := ⟨(.type "frame"),none,.plain,⟨[(some (.ref 200)),(some (.ref 3)),(some (.ref 197)),none,(some (.str t293 376)),none,(some (.ref 0))]⟩⟩
def y202 (w : World) : Obj := ⟨(.type "tuple"),none,(.seq ⟨[]⟩ 0),⟨[]⟩⟩
def y203 (w : World) : Obj := ⟨(.type "dict"),none,(.dict ⟨[⟨hs w t244,(.str t244 588),(.str t293 376)⟩,⟨hs w t245,(.str t245 592),(.int 29 591)⟩,⟨hs w t250,(.str t250 593),(.ref 202)⟩,⟨hs w t1,(.str t1 594),.none⟩]⟩ 2),⟨[]⟩⟩
def y204 (w : World) : Obj := ⟨(.type "type"),none,(.cls { name := t301, bases := [(.ref 59)], mro := [(.ref 204),(.ref 59),(.type "ValueError"),(.type "Exception"),(.type "BaseException"),(.type "object")], ns := 203, qualname := t301, hasDict := true, slotNames := [], subclasses := [], abstract := false, collection := none, hasDel := false }),⟨[(some (.ref 195)),none,(some (.str t301 581)),(some (.str t301 589)),(some (.builtin "ValueError.__new__")),(some (.bool true))]⟩⟩
def y205 (w : World) : Obj := ⟨(.type "super"),none,(.fields ⟨[(.ref 204),(.ref 204),(.ref 204)]⟩),⟨[]⟩⟩
def y206 (w : World) : Obj := ⟨(.type "builtin_function_or_method"),none,(.fields ⟨[(.builtin "object.__init_subclass__"),(.ref 204)]⟩),⟨[]⟩⟩
def y207 (w : World) : Obj := ⟨(.type "tuple"),none,(.seq ⟨[(.ref 59)]⟩ 0),⟨[]⟩⟩
def y208 (w : World) : Obj := ⟨(.type "builtin_function_or_method"),none,(.fields ⟨[(.builtin "type.__prepare__"),(.type "type")]⟩),⟨[]⟩⟩
def y209 (w : World) : Obj := ⟨(.type "dict"),none,(.dict ⟨[⟨hs w t244,(.str t244 604),(.str t293 376)⟩,⟨hs w t294,(.str t294 606),(.str t302 605)⟩,⟨hs w t245,(.str t245 608),(.int 31 607)⟩,⟨hs w t250,(.str t250 609),(.ref 214)⟩]⟩ 4),⟨[]⟩⟩
def y210 (w : World) : Obj := ⟨(.type "tuple"),none,(.seq ⟨[]⟩ 0),⟨[]⟩⟩
def y211 (w : World) : Obj := ⟨.none,none,(.fields ⟨[]⟩),⟨[]⟩⟩
def y212 (w : World) : Obj := ⟨(.type "code"),none,(.fields ⟨[(.str t302 599),(.str t302 600),(.str t178 601),(.int 31 0),(.int 0 0),(.int 0 0),(.int 0 0),(.int 0 0),(.ref 210),(.bool false),(.int 370 0),(.ref 211),.none,.none,.none,.none,(.int 602 0),(.int 31 0),(.str t178 603)]⟩),⟨[]⟩⟩
def y213 (w : World) : Obj := ⟨(.type "frame"),none,.plain,⟨[(some (.ref 212)),(some (.ref 3)),(some (.ref 209)),none,(some (.str t293 376)),none,(some (.ref 0))]⟩⟩
def y214 (w : World) : Obj := ⟨(.type "tuple"),none,(.seq ⟨[]⟩ 0),⟨[]⟩⟩
def y215 (w : World) : Obj := ⟨(.type "dict"),none,(.dict ⟨[⟨hs w t244,(.str t244 604),(.str t293 376)⟩,⟨hs w t245,(.str t245 608),(.int 31 607)⟩,⟨hs w t250,(.str t250 609),(.ref 214)⟩,⟨hs w t1,(.str t1 610),.none⟩]⟩ 2),⟨[]⟩⟩
def y216 (w : World) : Obj := ⟨(.type "type"),none,(.cls { name := t302, bases := [(.ref 59)], mro := [(.ref 216),(.ref 59),(.type "ValueError"),(.type "Exception"),(.type "BaseException"),(.type "object")], ns := 215, qualname := t302, hasDict := true, slotNames := [], subclasses := [], abstract := false, collection := none, hasDel := false }),⟨[(some (.ref 207)),none,(some (.str t302 597)),(some (.str t302 605)),(some (.builtin "ValueError.__new__")),(some (.bool true))]⟩⟩
def y217 (w : World) : Obj := ⟨(.type "super"),none,(.fields ⟨[(.ref 216),(.ref 216),(.ref 216)]⟩),⟨[]⟩⟩
def y218 (w : World) : Obj := ⟨(.type "builtin_function_or_method"),none,(.fields ⟨[(.builtin "object.__init_subclass__"),(.ref 216)]⟩),⟨[]⟩⟩
def y219 (w : World) : Obj := ⟨(.type "tuple"),none,(.seq ⟨[(.ref 59)]⟩ 0),⟨[]⟩⟩
def y220 (w : World) : Obj := ⟨(.type "builtin_function_or_method"),none,(.fields ⟨[(.builtin "type.__prepare__"),(.type "type")]⟩),⟨[]⟩⟩
def y221 (w : World) : Obj := ⟨(.type "dict"),none,(.dict ⟨[⟨hs w t244,(.str t244 620),(.str t293 376)⟩,⟨hs w t294,(.str t294 622),(.str t303 621)⟩,⟨hs w t245,(.str t245 624),(.int 33 623)⟩,⟨hs w t250,(.str t250 625),(.ref 226)⟩]⟩ 4),⟨[]⟩⟩
def y222 (w : World) : Obj := ⟨(.type "tuple"),none,(.seq ⟨[]⟩ 0),⟨[]⟩⟩
def y223 (w : World) : Obj := ⟨.none,none,(.fields ⟨[]⟩),⟨[]⟩⟩
def y224 (w : World) : Obj := ⟨(.type "code"),none,(.fields ⟨[(.str t303 615),(.str t303 616),(.str t178 617),(.int 33 0),(.int 0 0),(.int 0 0),(.int 0 0),(.int 0 0),(.ref 222),(.bool false),(.int 370 0),(.ref 223),.none,.none,.none,.none,(.int 618 0),(.int 33 0),(.str t178 619)]⟩),⟨[]⟩⟩
def y225 (w : World) : Obj := ⟨(.type "frame"),none,.plain,⟨[(some (.ref 224)),(some (.ref 3)),(some (.ref 221)),none,(some (.str t293 376)),none,(some (.ref 0))]⟩⟩
def y226 (w : World) : Obj := ⟨(.type "tuple"),none,(.seq ⟨[]⟩ 0),⟨[]⟩⟩
def y227 (w : World) : Obj := ⟨(.type "dict"),none,(.dict ⟨[⟨hs w t244,(.str t244 620),(.str t293 376)⟩,⟨hs w t245,(.str t245 624),(.int 33 623)⟩,⟨hs w t250,(.str t250 625),(.ref 226)⟩,⟨hs w t1,(.str t1 626),.none⟩]⟩ 2),⟨[]⟩⟩
def y228 (w : World) : Obj := ⟨(.type "type"),none,(.cls { name := t303, bases := [(.ref 59)], mro := [(.ref 228),(.ref 59),(.type "ValueError"),(.type "Exception"),(.type "BaseException"),(.type "object")], ns := 227, qualname := t303, hasDict := true, slotNames := [], subclasses := [], abstract := false, collection := none, hasDel := false }),⟨[(some (.ref 219)),none,(some (.str t303 613)),(some (.str t303 621)),(some (.builtin "ValueError.__new__")),(some (.bool true))]⟩⟩
def y229 (w : World) : Obj := ⟨(.type "super"),none,(.fields ⟨[(.ref 228),(.ref 228),(.ref 228)]⟩),⟨[]⟩⟩
def y230 (w : World) : Obj := ⟨(.type "builtin_function_or_method"),none,(.fields ⟨[(.builtin "object.__init_subclass__"),(.ref 228)]⟩),⟨[]⟩⟩
def y231 (w : World) : Obj := ⟨(.type "tuple"),none,(.seq ⟨[(.ref 59)]⟩ 0),⟨[]⟩⟩
def y232 (w : World) : Obj := ⟨(.type "builtin_function_or_method"),none,(.fields ⟨[(.builtin "type.__prepare__"),(.type "type")]⟩),⟨[]⟩⟩
def y233 (w : World) : Obj := ⟨(.type "dict"),none,(.dict ⟨[⟨hs w t244,(.str t244 636),(.str t293 376)⟩,⟨hs w t294,(.str t294 638),(.str t304 637)⟩,⟨hs w t245,(.str t245 640),(.int 35 639)⟩,⟨hs w t250,(.str t250 641),(.ref 238)⟩]⟩ 4),⟨[]⟩⟩
def y234 (w : World) : Obj := ⟨(.type "tuple"),none,(.seq ⟨[]⟩ 0),⟨[]⟩⟩
def y235 (w : World) : Obj := ⟨.none,none,(.fields ⟨[]⟩),⟨[]⟩⟩
def y236 (w : World) : Obj := ⟨(.type "code"),none,(.fields ⟨[(.str t304 631),(.str t304 632),(.str t178 633),(.int 35 0),(.int 0 0),(.int 0 0),(.int 0 0),(.int 0 0),(.ref 234),(.bool false),(.int 370 0),(.ref 235),.none,.none,.none,.none,(.int 634 0),(.int 35 0),(.str t178 635)]⟩),⟨[]⟩⟩
def y237 (w : World) : Obj := ⟨(.type "frame"),none,.plain,⟨[(some (.ref 236)),(some (.ref 3)),(some (.ref 233)),none,(some (.str t293 376)),none,(some (.ref 0))]⟩⟩
def y238 (w : World) : Obj := ⟨(.type "tuple"),none,(.seq ⟨[]⟩ 0),⟨[]⟩⟩
def y239 (w : World) : Obj := ⟨(.type "dict"),none,(.dict ⟨[⟨hs w t244,(.str t244 636),(.str t293 376)⟩,⟨hs w t245,(.str t245 640),(.int 35 639)⟩,⟨hs w t250,(.str t250 641),(.ref 238)⟩,⟨hs w t1,(.str t1 642),.none⟩]⟩ 2),⟨[]⟩⟩
def y240 (w : World) : Obj := ⟨(.type "type"),none,(.cls { name := t304, bases := [(.ref 59)], mro := [(.ref 240),(.ref 59),(.type "ValueError"),(.type "Exception"),(.type "BaseException"),(.type "object")], ns := 239, qualname := t304, hasDict := true, slotNames := [], subclasses := [], abstract := false, collection := none, hasDel := false }),⟨[(some (.ref 231)),none,(some (.str t304 629)),(some (.str t304 637)),(some (.builtin "ValueError.__new__")),(some (.bool true))]⟩⟩
def y241 (w : World) : Obj := ⟨(.type "super"),none,(.fields ⟨[(.ref 240),(.ref 240),(.ref 240)]⟩),⟨[]⟩⟩
def y242 (w : World) : Obj := ⟨(.type "builtin_function_or_method"),none,(.fields ⟨[(.builtin "object.__init_subclass__"),(.ref 240)]⟩),⟨[]⟩⟩
def y243 (w : World) : Obj := ⟨(.type "tuple"),none,(.seq ⟨[]⟩ 0),⟨[]⟩⟩
def y244 (w : World) : Obj := ⟨.none,none,(.fields ⟨[]⟩),⟨[]⟩⟩
def y245 (w : World) : Obj := ⟨(.type "tuple"),none,(.seq ⟨[(.str t296 650)]⟩ 0),⟨[]⟩⟩
def y246 (w : World) : Obj := ⟨(.type "tuple"),none,(.seq ⟨[]⟩ 0),⟨[]⟩⟩
def y247 (w : World) : Obj := ⟨.none,none,(.func { name := t305, qualname := t305, params := defArgs (top 19), body := .stmts (defBody (top 19)), scope := defScope (top 19), globals := 0, closure := [], defaults := .none, kwdefaults := .none, doc := .none, pyModule := .none, annotations := none, code := .none, closureTuple := .none, builtins := 0 }),⟨[]⟩⟩
def y248 (w : World) : Obj := ⟨(.type "code"),none,(.fields ⟨[(.str t305 647),(.str t305 648),(.str t178 649),(.int 38 0),(.int 1 0),(.int 0 0),(.int 0 0),(.int 3 0),(.ref 243),(.bool true),(.int 370 0),(.ref 244),.none,(.ref 245),(.ref 246),(.ref 247),(.int 651 0),(.int 38 0),(.str t178 652)]⟩),⟨[]⟩⟩
def y249 (w : World) : Obj := ⟨(.type "function"),none,(.func { name := t305, qualname := t305, params := defArgs (top 19), body := .stmts (defBody (top 19)), scope := defScope (top 19), globals := 3, closure := [], defaults := .none, kwdefaults := .none, doc := .none, pyModule := (.str t319 645), annotations := none, code := (.ref 248), closureTuple := .none, builtins := 0 }),⟨[]⟩⟩
def y250 (w : World) : Obj := ⟨(.type "tuple"),none,(.seq ⟨[]⟩ 0),⟨[]⟩⟩
def y251 (w : World) : Obj := ⟨.none,none,(.fields ⟨[]⟩),⟨[]⟩⟩
def y252 (w : World) : Obj := ⟨(.type "tuple"),none,(.seq ⟨[(.str t296 657)]⟩ 0),⟨[]⟩⟩
def y253 (w : World) : Obj := ⟨(.type "tuple"),none,(.seq ⟨[]⟩ 0),⟨[]⟩⟩
def y254 (w : World) : Obj := ⟨.none,none,(.func { name := t306, qualname := t306, params := defArgs (top 20), body := .stmts (defBody (top 20)), scope := defScope (top 20), globals := 0, closure := [], defaults := .none, kwdefaults := .none, doc := .none, pyModule := .none, annotations := none, code := .none, closureTuple := .none, builtins := 0 }),⟨[]⟩⟩
def y255 (w : World) : Obj := ⟨(.type "code"),none,(.fields ⟨[(.str t306 654),(.str t306 655),(.str t178 656),(.int 40 0),(.int 1 0),(.int 0 0),(.int 0 0),(.int 3 0),(.ref 250),(.bool true),(.int 370 0),(.ref 251),.none,(.ref 252),(.ref 253),(.ref 254),(.int 658 0),(.int 40 0),(.str t178 659)]⟩),⟨[]⟩⟩
def y256 (w : World) : Obj := ⟨(.type "function"),none,(.func { name := t306, qualname := t306, params := defArgs (top 20), body := .stmts (defBody (top 20)), scope := defScope (top 20), globals := 3, closure := [], defaults := .none, kwdefaults := .none, doc := .none, pyModule := (.str t319 645), annotations := none, code := (.ref 255), closureTuple := .none, builtins := 0 }),⟨[]⟩⟩
def y257 (w : World) : Obj := ⟨(.type "tuple"),none,(.seq ⟨[]⟩ 0),⟨[]⟩⟩
def y258 (w : World) : Obj := ⟨.none,none,(.fields ⟨[]⟩),⟨[]⟩⟩
def y259 (w : World) : Obj := ⟨(.type "tuple"),none,(.seq ⟨[(.str t296 664),(.str t320 665),(.str t321 666)]⟩ 0),⟨[]⟩⟩
def y260 (w : World) : Obj := ⟨(.type "tuple"),none,(.seq ⟨[]⟩ 0),⟨[]⟩⟩
def y261 (w : World) : Obj := ⟨.none,none,(.func { name := t307, qualname := t307, params := defArgs (top 21), body := .stmts (defBody (top 21)), scope := defScope (top 21), globals := 0, closure := [], defaults := .none, kwdefaults := .none, doc := .none, pyModule := .none, annotations := none, code := .none, closureTuple := .none, builtins := 0 }),⟨[]⟩⟩
def y262 (w : World) : Obj := ⟨(.type "code"),none,(.fields ⟨[(.str t307 661),(.str t307 662),(.str t178 663),(.int 42 0),(.int 3 0),(.int 0 0),(.int 0 0),(.int 3 0),(.ref 257),(.bool true),(.int 370 0),(.ref 258),.none,(.ref 259),(.ref 260),(.ref 261),(.int 667 0),(.int 42 0),(.str t178 668)]⟩),⟨[]⟩⟩
def y263 (w : World) : Obj := ⟨(.type "function"),none,(.func { name := t307, qualname := t307, params := defArgs (top 21), body := .stmts (defBody (top 21)), scope := defScope (top 21), globals := 3, closure := [], defaults := .none, kwdefaults := .none, doc := .none, pyModule := (.str t319 645), annotations := none, code := (.ref 262), closureTuple := .none, builtins := 0 }),⟨[]⟩⟩
def y264 (w : World) : Obj := ⟨(.type "tuple"),none,(.seq ⟨[]⟩ 0),⟨[]⟩⟩
def y265 (w : World) : Obj := ⟨.none,none,(.fields ⟨[]⟩),⟨[]⟩⟩
def y266 (w : World) : Obj := ⟨(.type "tuple"),none,(.seq ⟨[(.str t296 673),(.str t322 674)]⟩ 0),⟨[]⟩⟩
def y267 (w : World) : Obj := ⟨(.type "tuple"),none,(.seq ⟨[]⟩ 0),⟨[]⟩⟩
def y268 (w : World) : Obj := ⟨.none,none,(.func { name := t308, qualname := t308, params := defArgs (top 22), body := .stmts (defBody (top 22)), scope := defScope (top 22), globals := 0, closure := [], defaults := .none, kwdefaults := .none, doc := .none, pyModule := .none, annotations := none, code := .none, closureTuple := .none, builtins := 0 }),⟨[]⟩⟩
def y269 (w : World) : Obj := ⟨(.type "code"),none,(.fields ⟨[(.str t308 670),(.str t308 671),(.str t178 672),(.int 44 0),(.int 2 0),(.int 0 0),(.int 0 0),(.int 3 0),(.ref 264),(.bool true),(.int 370 0),(.ref 265),.none,(.ref 266),(.ref 267),(.ref 268),(.int 675 0),(.int 44 0),(.str t178 676)]⟩),⟨[]⟩⟩
def y270 (w : World) : Obj := ⟨(.type "function"),none,(.func { name := t308, qualname := t308, params := defArgs (top 22), body := .stmts (defBody (top 22)), scope := defScope (top 22), globals := 3, closure := [], defaults := .none, kwdefaults := .none, doc := .none, pyModule := (.str t319 645), annotations := none, code := (.ref 269), closureTuple := .none, builtins := 0 }),⟨[]⟩⟩
def y271 (w : World) : Obj := ⟨(.type "tuple"),none,(.seq ⟨[]⟩ 0),⟨[]⟩⟩
def y272 (w : World) : Obj := ⟨.none,none,(.fields ⟨[]⟩),⟨[]⟩⟩
def y273 (w : World) : Obj := ⟨(.type "tuple"),none,(.seq ⟨[(.str t296 681),(.str t322 682)]⟩ 0),⟨[]⟩⟩
def y274 (w : World) : Obj := ⟨(.type "tuple"),none,(.seq ⟨[]⟩ 0),⟨[]⟩⟩
def y275 (w : World) : Obj := ⟨.none,none,(.func { name := t309, qualname := t309, params := defArgs (top 23), body := .stmts (defBody (top 23)), scope := defScope (top 23), globals := 0, closure := [], defaults := .none, kwdefaults := .none, doc := .none, pyModule := .none, annotations := none, code := .none, closureTuple := .none, builtins := 0 }),⟨[]⟩⟩
def y276 (w : World) : Obj := ⟨(.type "code"),none,(.fields ⟨[(.str t309 678),(.str t309 679),(.str t178 680),(.int 46 0),(.int 2 0),(.int 0 0),(.int 0 0),(.int 3 0),(.ref 271),(.bool true),(.int 370 0),(.ref 272),.none,(.ref 273),(.ref 274),(.ref 275),(.int 683 0),(.int 46 0),(.str t178 684)]⟩),⟨[]⟩⟩
def y277 (w : World) : Obj := ⟨(.type "function"),none,(.func { name := t309, qualname := t309, params := defArgs (top 23), body := .stmts (defBody (top 23)), scope := defScope (top 23), globals := 3, closure := [], defaults := .none, kwdefaults := .none, doc := .none, pyModule := (.str t319 645), annotations := none, code := (.ref 276), closureTuple := .none, builtins := 0 }),⟨[]⟩⟩
def y278 (w : World) : Obj := ⟨(.type "tuple"),none,(.seq ⟨[]⟩ 0),⟨[]⟩⟩
def y279 (w : World) : Obj := ⟨.none,none,(.fields ⟨[]⟩),⟨[]⟩⟩
def y280 (w : World) : Obj := ⟨(.type "tuple"),none,(.seq ⟨[(.str t323 689)]⟩ 0),⟨[]⟩⟩
def y281 (w : World) : Obj := ⟨(.type "tuple"),none,(.seq ⟨[(.str t323 690)]⟩ 0),⟨[]⟩⟩
def y282 (w : World) : Obj := ⟨.none,none,(.func { name := t310, qualname := t310, params := defArgs (top 24), body := .stmts (defBody (top 24)), scope := defScope (top 24), globals := 0, closure := [], defaults := .none, kwdefaults := .none, doc := .none, pyModule := .none, annotations := none, code := .none, closureTuple := .none, builtins := 0 }),⟨[]⟩⟩
def y283 (w : World) : Obj := ⟨(.type "code"),none,(.fields ⟨[(.str t310 686),(.str t310 687),(.str t178 688),(.int 48 0),(.int 1 0),(.int 0 0),(.int 0 0),(.int 3 0),(.ref 278),(.bool true),(.int 370 0),(.ref 279),.none,(.ref 280),(.ref 281),(.ref 282),(.int 691 0),(.int 48 0),(.str t178 692)]⟩),⟨[]⟩⟩
def y284 (w : World) : Obj := ⟨(.type "function"),none,(.func { name := t310, qualname := t310, params := defArgs (top 24), body := .stmts (defBody (top 24)), scope := defScope (top 24), globals := 3, closure := [], defaults := .none, kwdefaults := .none, doc := .none, pyModule := (.str t319 645), annotations := none, code := (.ref 283), closureTuple := .none, builtins := 0 }),⟨[]⟩⟩
def y285 (w : World) : Obj := ⟨(.type "tuple"),none,(.seq ⟨[]⟩ 0),⟨[]⟩⟩
def y286 (w : World) : Obj := ⟨.none,none,(.fields ⟨[]⟩),⟨[]⟩⟩
def y287 (w : World) : Obj := ⟨(.type "tuple"),none,(.seq ⟨[(.str t324 699),(.str t325 700),(.str t296 701)]⟩ 0),⟨[]⟩⟩
def y288 (w : World) : Obj := ⟨(.type "tuple"),none,(.seq ⟨[]⟩ 0),⟨[]⟩⟩
def y289 (w : World) : Obj := ⟨.none,none,(.func { name := t311, qualname := t311, params := defArgs (top 26), body := .stmts (defBody (top 26)), scope := defScope (top 26), globals := 0, closure := [], defaults := .none, kwdefaults := .none, doc := .none, pyModule := .none, annotations := none, code := .none, closureTuple := .none, builtins := 0 }),⟨[]⟩⟩
def y290 (w : World) : Obj := ⟨(.type "code"),none,(.fields ⟨[(.str t311 696),(.str t311 697),(.str t178 698),(.int 51 0),(.int 3 0),(.int 0 0),(.int 0 0),(.int 3 0),(.ref 285),(.bool true),(.int 370 0),(.ref 286),.none,(.ref 287),(.ref 288),(.ref 289),(.int 702 0),(.int 51 0),(.str t178 703)]⟩),⟨[]⟩⟩
def y291 (w : World) : Obj := ⟨(.type "function"),none,(.func { name := t311, qualname := t311, params := defArgs (top 26), body := .stmts (defBody (top 26)), scope := defScope (top 26), globals := 3, closure := [], defaults := .none, kwdefaults := .none, doc := .none, pyModule := (.str t318 694), annotations := none, code := (.ref 290), closureTuple := .none, builtins := 0 }),⟨[]⟩⟩
def y292 (w : World) : Obj := ⟨(.type "tuple"),none,(.seq ⟨[]⟩ 0),⟨[]⟩⟩
def y293 (w : World) : Obj := ⟨.none,none,(.fields ⟨[]⟩),⟨[]⟩⟩
def y294 (w : World) : Obj := ⟨(.type "tuple"),none,(.seq ⟨[(.str t296 708),(.str t326 709),(.str t327 710)]⟩ 0),⟨[]⟩⟩
def y295 (w : World) : Obj := ⟨(.type "tuple"),none,(.seq ⟨[(.str t324 711),(.str t325 712)]⟩ 0),⟨[]⟩⟩
def y296 (w : World) : Obj := ⟨.none,none,(.func { name := t312, qualname := t312, params := defArgs (top 27), body := .stmts (defBody (top 27)), scope := defScope (top 27), globals := 0, closure := [], defaults := .none, kwdefaults := .none, doc := .none, pyModule := .none, annotations := none, code := .none, closureTuple := .none, builtins := 0 }),⟨[]⟩⟩
def y297 (w : World) : Obj := ⟨(.type "code"),none,(.fields ⟨[(.str t312 705),(.str t312 706),(.str t178 707),(.int 55 0),(.int 1 0),(.int 0 0),(.int 0 0),(.int 3 0),(.ref 292),(.bool true),(.int 370 0),(.ref 293),.none,(.ref 294),(.ref 295),(.ref 296),(.int 713 0),(.int 55 0),(.str t178 714)]⟩),⟨[]⟩⟩
def y298 (w : World) : Obj := ⟨(.type "function"),none,(.func { name := t312, qualname := t312, params := defArgs (top 27), body := .stmts (defBody (top 27)), scope := defScope (top 27), globals := 3, closure := [], defaults := .none, kwdefaults := .none, doc := .none, pyModule := (.str t318 694), annotations := none, code := (.ref 297), closureTuple := .none, builtins := 0 }),⟨[]⟩⟩
def y299 (w : World) : Obj := ⟨(.type "tuple"),none,(.seq ⟨[]⟩ 0),⟨[]⟩⟩
def y300 (w : World) : Obj := ⟨.none,none,(.fields ⟨[]⟩),⟨[]⟩⟩
def y301 (w : World) : Obj := ⟨(.type "tuple"),none,(.seq ⟨[(.str t328 719)]⟩ 0),⟨[]⟩⟩
def y302 (w : World) : Obj := ⟨(.type "tuple"),none,(.seq ⟨[]⟩ 0),⟨[]⟩⟩
def y303 (w : World) : Obj := ⟨.none,none,(.func { name := t313, qualname := t313, params := defArgs (top 28), body := .stmts (defBody (top 28)), scope := defScope (top 28), globals := 0, closure := [], defaults := .none, kwdefaults := .none, doc := .none, pyModule := .none, annotations := none, code := .none, closureTuple := .none, builtins := 0 }),⟨[]⟩⟩
def y304 (w : World) : Obj := ⟨(.type "code"),none,(.fields ⟨[(.str t313 716),(.str t313 717),(.str t178 718),(.int 64 0),(.int 1 0),(.int 0 0),(.int 0 0),(.int 3 0),(.ref 299),(.bool true),(.int 370 0),(.ref 300),.none,(.ref 301),(.ref 302),(.ref 303),(.int 720 0),(.int 64 0),(.str t178 721)]⟩),⟨[]⟩⟩
def y305 (w : World) : Obj := ⟨(.type "function"),none,(.func { name := t313, qualname := t313, params := defArgs (top 28), body := .stmts (defBody (top 28)), scope := defScope (top 28), globals := 3, closure := [], defaults := .none, kwdefaults := .none, doc := .none, pyModule := (.str t318 694), annotations := none, code := (.ref 304), closureTuple := .none, builtins := 0 }),⟨[]⟩⟩
def y306 (w : World) : Obj := ⟨(.type "tuple"),none,(.seq ⟨[]⟩ 0),⟨[]⟩⟩
def y307 (w : World) : Obj := ⟨.none,none,(.fields ⟨[]⟩),⟨[]⟩⟩
def y308 (w : World) : Obj := ⟨(.type "tuple"),none,(.seq ⟨[(.str t324 726),(.str t329 727)]⟩ 0),⟨[]⟩⟩
def y309 (w : World) : Obj := ⟨(.type "tuple"),none,(.seq ⟨[]⟩ 0),⟨[]⟩⟩
def y310 (w : World) : Obj := ⟨.none,none,(.func { name := t314, qualname := t314, params := defArgs (top 29), body := .stmts (defBody (top 29)), scope := defScope (top 29), globals := 0, closure := [], defaults := .none, kwdefaults := .none, doc := .none, pyModule := .none, annotations := none, code := .none, closureTuple := .none, builtins := 0 }),⟨[]⟩⟩
def y311 (w : World) : Obj := ⟨(.type "code"),none,(.fields ⟨[(.str t314 723),(.str t314 724),(.str t178 725),(.int 67 0),(.int 2 0),(.int 0 0),(.int 0 0),(.int 3 0),(.ref 306),(.bool true),(.int 370 0),(.ref 307),.none,(.ref 308),(.ref 309),(.ref 310),(.int 728 0),(.int 67 0),(.str t178 729)]⟩),⟨[]⟩⟩
def y312 (w : World) : Obj := ⟨(.type "function"),none,(.func { name := t314, qualname := t314, params := defArgs (top 29), body := .stmts (defBody (top 29)), scope := defScope (top 29), globals := 3, closure := [], defaults := .none, kwdefaults := .none, doc := .none, pyModule := (.str t318 694), annotations := none, code := (.ref 311), closureTuple := .none, builtins := 0 }),⟨[]⟩⟩
def y313 (w : World) : Obj := ⟨(.type "tuple"),none,(.seq ⟨[]⟩ 0),⟨[]⟩⟩
def y314 (w : World) : Obj := ⟨.none,none,(.fields ⟨[]⟩),⟨[]⟩⟩
def y315 (w : World) : Obj := ⟨(.type "tuple"),none,(.seq ⟨[(.str t330 734),(.str t331 735)]⟩ 0),⟨[]⟩⟩
def y316 (w : World) : Obj := ⟨(.type "tuple"),none,(.seq ⟨[]⟩ 0),⟨[]⟩⟩
def y317 (w : World) : Obj := ⟨.none,none,(.func { name := t315, qualname := t315, params := defArgs (top 30), body := .stmts (defBody (top 30)), scope := defScope (top 30), globals := 0, closure := [], defaults := .none, kwdefaults := .none, doc := .none, pyModule := .none, annotations := none, code := .none, closureTuple := .none, builtins := 0 }),⟨[]⟩⟩
def y318 (w : World) : Obj := ⟨(.type "code"),none,(.fields ⟨[(.str t315 731),(.str t315 732),(.str t178 733),(.int 70 0),(.int 2 0),(.int 0 0),(.int 0 0),(.int 3 0),(.ref 313),(.bool true),(.int 370 0),(.ref 314),.none,(.ref 315),(.ref 316),(.ref 317),(.int 736 0),(.int 70 0),(.str t178 737)]⟩),⟨[]⟩⟩
def y319 (w : World) : Obj := ⟨(.type "function"),none,(.func { name := t315, qualname := t315, params := defArgs (top 30), body := .stmts (defBody (top 30)), scope := defScope (top 30), globals := 3, closure := [], defaults := .none, kwdefaults := .none, doc := .none, pyModule := (.str t318 694), annotations := none, code := (.ref 318), closureTuple := .none, builtins := 0 }),⟨[]⟩⟩
def y320 (w : World) : Obj := ⟨(.type "tuple"),none,(.seq ⟨[]⟩ 0),⟨[]⟩⟩
def y321 (w : World) : Obj := ⟨.none,none,(.fields ⟨[]⟩),⟨[]⟩⟩
def y322 (w : World) : Obj := ⟨(.type "tuple"),none,(.seq ⟨[(.str t328 742),(.str t332 743),(.str t333 744),(.str t242 745),(.str t334 746),(.str t330 747)]⟩ 0),⟨[]⟩⟩
def y323 (w : World) : Obj := ⟨(.type "tuple"),none,(.seq ⟨[]⟩ 0),⟨[]⟩⟩
def y324 (w : World) : Obj := ⟨.none,none,(.func { name := t316, qualname := t316, params := defArgs (top 31), body := .stmts (defBody (top 31)), scope := defScope (top 31), globals := 0, closure := [], defaults := .none, kwdefaults := .none, doc := .none, pyModule := .none, annotations := none, code := .none, closureTuple := .none, builtins := 0 }),⟨[]⟩⟩
def y325 (w : World) : Obj := ⟨(.type "code"),none,(.fields ⟨[(.str t316 739),(.str t316 740),(.str t178 741),(.int 72 0),(.int 1 0),(.int 0 0),(.int 0 0),(.int 3 0),(.ref 320),(.bool true),(.int 370 0),(.ref 321),.none,(.ref 322),(.ref 323),(.ref 324),(.int 748 0),(.int 72 0),(.str t178 749)]⟩),⟨[]⟩⟩
def y326 (w : World) : Obj := ⟨(.type "function"),none,(.func { name := t316, qualname := t316, params := defArgs (top 31), body := .stmts (defBody (top 31)), scope := defScope (top 31), globals := 3, closure := [], defaults := .none, kwdefaults := .none, doc := .none, pyModule := (.str t318 694), annotations := none, code := (.ref 325), closureTuple := .none, builtins := 0 }),⟨[]⟩⟩
def y327 (w : World) : Obj := ⟨(.type "tuple"),none,(.seq ⟨[]⟩ 0),⟨[]⟩⟩
def y328 (w : World) : Obj := ⟨.none,none,(.fields ⟨[]⟩),⟨[]⟩⟩
def y329 (w : World) : Obj := ⟨.none,none,(.func { name := t317, qualname := t317, params := defArgs (top 32), body := .stmts (defBody (top 32)), scope := defScope (top 32), globals := 0, closure := [], defaults := .none, kwdefaults := .none, doc := .none, pyModule := .none, annotations := none, code := .none, closureTuple := .none, builtins := 0 }),⟨[]⟩⟩
def y330 (w : World) : Obj := ⟨(.type "code"),none,(.fields ⟨[(.str t317 751),(.str t317 752),(.str t178 753),(.int 82 0),(.int 1 0),(.int 0 0),(.int 0 0),(.int 3 0),(.ref 327),(.bool true),(.int 370 0),(.ref 328),.none,.none,.none,(.ref 329),(.int 754 0),(.int 82 0),(.str t178 755)]⟩),⟨[]⟩⟩
def y331 (w : World) : Obj := ⟨(.type "function"),none,(.func { name := t317, qualname := t317, params := defArgs (top 32), body := .stmts (defBody (top 32)), scope := defScope (top 32), globals := 3, closure := [], defaults := .none, kwdefaults := .none, doc := .none, pyModule := (.str t318 694), annotations := none, code := (.ref 330), closureTuple := .none, builtins := 0 }),⟨[]⟩⟩
def tree2 (w : World) : PySem.W.BT := (.node (y0 w) (.node (y1 w) (.node (y3_2 w) (.node (y7 w) (.node (y15 w) (.node (y31 w) (.node (y63 w) (.node (y127 w) (.node (y255 w) .nil .nil) .nil) (.node (y191 w) (.node (y319 w) .nil .nil) .nil)) (.node (y95 w) (.node (y159 w) (.node (y287 w) .nil .nil) .nil) (.node (y223 w) .nil .nil))) (.node (y47 w) (.node (y79 w) (.node (y143 w) (.node (y271 w) .nil .nil) .nil) (.node (y207 w) .nil .nil)) (.node (y111 w) (.node (y175 w) (.node (y303 w) .nil .nil) .nil) (.node (y239 w) .nil .nil)))) (.node (y23 w) (.node (y39 w) (.node (y71 w) (.node (y135 w) (.node (y263 w) .nil .nil) .nil) (.node (y199 w) (.node (y327 w) .nil .nil) .nil)) (.node (y103 w) (.node (y167 w) (.node (y295 w) .nil .nil) .nil) (.node (y231 w) .nil .nil))) (.node (y55 w) (.node (y87 w) (.node (y151 w) (.node (y279 w) .nil .nil) .nil) (.node (y215 w) .nil .nil)) (.node (y119 w) (.node (y183 w) (.node (y311 w) .nil .nil) .nil) (.node (y247 w) .nil .nil))))) (.node (y11 w) (.node (y19 w) (.node (y35 w) (.node (y67 w) (.node (y131 w) (.node (y259 w) .nil .nil) .nil) (.node (y195 w) (.node (y323 w) .nil .nil) .nil)) (.node (y99 w) (.node (y163 w) (.node (y291 w) .nil .nil) .nil) (.node (y227 w) .nil .nil))) (.node (y51 w) (.node (y83 w) (.node (y147 w) (.node (y275 w) .nil .nil) .nil) (.node (y211 w) .nil .nil)) (.node (y115 w) (.node (y179 w) (.node (y307 w) .nil .nil) .nil) (.node (y243 w) .nil .nil)))) (.node (y27 w) (.node (y43 w) (.node (y75 w) (.node (y139 w) (.node (y267 w) .nil .nil) .nil) (.node (y203 w) (.node (y331 w) .nil .nil) .nil)) (.node (y107 w) (.node (y171 w) (.node (y299 w) .nil .nil) .nil) (.node (y235 w) .nil .nil))) (.node (y59_1 w) (.node (y91 w) (.node (y155 w) (.node (y283 w) .nil .nil) .nil) (.node (y219 w) .nil .nil)) (.node (y123 w) (.node (y187 w) (.node (y315 w) .nil .nil) .nil) (.node (y251 w) .nil .nil)))))) (.node (y5 w) (.node (y9 w) (.node (y17 w) (.node (y33 w) (.node (y65 w) (.node (y129 w) (.node (y257 w) .nil .nil) .nil) (.node (y193 w) (.node (y321 w) .nil .nil) .nil)) (.node (y97 w) (.node (y161 w) (.node (y289 w) .nil .nil) .nil) (.node (y225 w) .nil .nil))) (.node (y49 w) (.node (y81 w) (.node (y145 w) (.node (y273 w) .nil .nil) .nil) (.node (y209 w) .nil .nil)) (.node (y113 w) (.node (y177 w) (.node (y305 w) .nil .nil) .nil) (.node (y241 w) .nil .nil)))) (.node (y25 w) (.node (y41 w) (.node (y73 w) (.node (y137 w) (.node (y265 w) .nil .nil) .nil) (.node (y201 w) (.node (y329 w) .nil .nil) .nil)) (.node (y105 w) (.node (y169 w) (.node (y297 w) .nil .nil) .nil) (.node (y233 w) .nil .nil))) (.node (y57 w) (.node (y89 w) (.node (y153 w) (.node (y281 w) .nil .nil) .nil) (.node (y217 w) .nil .nil)) (.node (y121 w) (.node (y185 w) (.node (y313 w) .nil .nil) .nil) (.node (y249 w) .nil .nil))))) (.node (y13 w) (.node (y21 w) (.node (y37 w) (.node (y69 w) (.node (y133 w) (.node (y261 w) .nil .nil) .nil) (.node (y197 w) (.node (y325 w) .nil .nil) .nil)) (.node (y101 w) (.node (y165 w) (.node (y293 w) .nil .nil) .nil) (.node (y229 w) .nil .nil))) (.node (y53 w) (.node (y85 w) (.node (y149 w) (.node (y277 w) .nil .nil) .nil) (.node (y213 w) .nil .nil)) (.node (y117 w) (.node (y181 w) (.node (y309 w) .nil .nil) .nil) (.node (y245 w) .nil .nil)))) (.node (y29 w) (.node (y45 w) (.node (y77 w) (.node (y141 w) (.node (y269 w) .nil .nil) .nil) (.node (y205 w) .nil .nil)) (.node (y109 w) (.node (y173 w) (.node (y301 w) .nil .nil) .nil) (.node (y237 w) .nil .nil))) (.node (y61 w) (.node (y93 w) (.node (y157 w) (.node (y285 w) .nil .nil) .nil) (.node (y221 w) .nil .nil)) (.node (y125 w) (.node (y189 w) (.node (y317 w) .nil .nil) .nil) (.node (y253 w) .nil .nil))))))) (.node (y2 w) (.node (y4 w) (.node (y8 w) (.node (y16 w) (.node (y32 w) (.node (y64 w) (.node (y128 w) (.node (y256 w) .nil .nil) .nil) (.node (y192 w) (.node (y320 w) .nil .nil) .nil)) (.node (y96 w) (.node (y160 w) (.node (y288 w) .nil .nil) .nil) (.node (y224 w) .nil .nil))) (.node (y48 w) (.node (y80 w) (.node (y144 w) (.node (y272 w) .nil .nil) .nil) (.node (y208 w) .nil .nil)) (.node (y112 w) (.node (y176 w) (.node (y304 w) .nil .nil) .nil) (.node (y240 w) .nil .nil)))) (.node (y24 w) (.node (y40_1 w) (.node (y72 w) (.node (y136 w) (.node (y264 w) .nil .nil) .nil) (.node (y200 w) (.node (y328 w) .nil .nil) .nil)) (.node (y104 w) (.node (y168 w) (.node (y296 w) .nil .nil) .nil) (.node (y232 w) .nil .nil))) (.node (y56 w) (.node (y88 w) (.node (y152 w) (.node (y280 w) .nil .nil) .nil) (.node (y216 w) .nil .nil)) (.node (y120 w) (.node (y184 w) (.node (y312 w) .nil .nil) .nil) (.node (y248 w) .nil .nil))))) (.node (y12 w) (.node (y20 w) (.node (y36 w) (.node (y68 w) (.node (y132 w) (.node (y260 w) .nil .nil) .nil) (.node (y196 w) (.node (y324 w) .nil .nil) .nil)) (.node (y100 w) (.node (y164 w) (.node (y292 w) .nil .nil) .nil) (.node (y228 w) .nil .nil))) (.node (y52 w) (.node (y84 w) (.node (y148 w) (.node (y276 w) .nil .nil) .nil) (.node (y212 w) .nil .nil)) (.node (y116 w) (.node (y180 w) (.node (y308 w) .nil .nil) .nil) (.node (y244 w) .nil .nil)))) (.node (y28 w) (.node (y44 w) (.node (y76 w) (.node (y140 w) (.node (y268 w) .nil .nil) .nil) (.node (y204 w) .nil .nil)) (.node (y108 w) (.node (y172 w) (.node (y300 w) .nil .nil) .nil) (.node (y236 w) .nil .nil))) (.node (y60 w) (.node (y92 w) (.node (y156 w) (.node (y284 w) .nil .nil) .nil) (.node (y220 w) .nil .nil)) (.node (y124 w) (.node (y188 w) (.node (y316 w) .nil .nil) .nil) (.node (y252 w) .nil .nil)))))) (.node (y6 w) (.node (y10 w) (.node (y18 w) (.node (y34 w) (.node (y66 w) (.node (y130 w) (.node (y258 w) .nil .nil) .nil) (.node (y194 w) (.node (y322 w) .nil .nil) .nil)) (.node (y98 w) (.node (y162 w) (.node (y290 w) .nil .nil) .nil) (.node (y226 w) .nil .nil))) (.node (y50 w) (.node (y82 w) (.node (y146 w) (.node (y274 w) .nil .nil) .nil) (.node (y210 w) .nil .nil)) (.node (y114 w) (.node (y178 w) (.node (y306 w) .nil .nil) .nil) (.node (y242 w) .nil .nil)))) (.node (y26 w) (.node (y42 w) (.node (y74 w) (.node (y138 w) (.node (y266 w) .nil .nil) .nil) (.node (y202 w) (.node (y330 w) .nil .nil) .nil)) (.node (y106 w) (.node (y170 w) (.node (y298 w) .nil .nil) .nil) (.node (y234 w) .nil .nil))) (.node (y58 w) (.node (y90 w) (.node (y154 w) (.node (y282 w) .nil .nil) .nil) (.node (y218 w) .nil .nil)) (.node (y122 w) (.node (y186 w) (.node (y314 w) .nil .nil) .nil) (.node (y250 w) .nil .nil))))) (.node (y14 w) (.node (y22 w) (.node (y38 w) (.node (y70 w) (.node (y134 w) (.node (y262 w) .nil .nil) .nil) (.node (y198 w) (.node (y326 w) .nil .nil) .nil)) (.node (y102 w) (.node (y166 w) (.node (y294 w) .nil .nil) .nil) (.node (y230 w) .nil .nil))) (.node (y54 w) (.node (y86 w) (.node (y150 w) (.node (y278 w) .nil .nil) .nil) (.node (y214 w) .nil .nil)) (.node (y118 w) (.node (y182 w) (.node (y310 w) .nil .nil) .nil) (.node (y246 w) .nil .nil)))) (.node (y30 w) (.node (y46 w) (.node (y78 w) (.node (y142 w) (.node (y270 w) .nil .nil) .nil) (.node (y206 w) .nil .nil)) (.node (y110 w) (.node (y174 w) (.node (y302 w) .nil .nil) .nil) (.node (y238 w) .nil .nil))) (.node (y62 w) (.node (y94 w) (.node (y158 w) (.node (y286 w) .nil .nil) .nil) (.node (y222 w) .nil .nil)) (.node (y126 w) (.node (y190 w) (.node (y318 w) .nil .nil) .nil) (.node (y254 w) .nil .nil))))))))
def st2 (w : World) : PySem.W.SharedT := ⟨tree2 w, 332, life0, #[], ⟨0,0,0,0⟩, 757, (start (opening R.prog)).1.os⟩
def y3_3 (w : World) : Obj := ⟨(.type "dict"),none,(.dict ⟨[⟨hs w t0,(.str t0 165),(.str t394 1278)⟩,⟨hs w t1,(.str t1 166),.none⟩,⟨hs w t2,(.str t2 167),.none⟩,⟨hs w t3,(.str t3 168),(.builtin "__main__.__loader__#opaque")⟩,⟨hs w t4,(.str t4 169),.none⟩,⟨hs w t173,(.str t173 170),(.ref 6)⟩,⟨hs w t174,(.str t174 171),(.ref 4)⟩,⟨hs w t175,(.str t175 173),(.str t178 172)⟩,⟨hs w t176,(.str t176 174),.none⟩,⟨hs w t177,(.str t177 369),(.builtin "math.gcd")⟩,⟨hs w t284,(.str t284 404),(.ref 59)⟩,⟨hs w t285,(.str t285 420),(.ref 72)⟩,⟨hs w t286,(.str t286 436),(.ref 84)⟩,⟨hs w t287,(.str t287 452),(.ref 96)⟩,⟨hs w t288,(.str t288 468),(.ref 108)⟩,⟨hs w t289,(.str t289 484),(.ref 120)⟩,⟨hs w t290,(.str t290 500),(.ref 132)⟩,⟨hs w t291,(.str t291 516),(.ref 144)⟩,⟨hs w t292,(.str t292 532),(.ref 156)⟩,⟨hs w t298,(.str t298 548),(.ref 168)⟩,⟨hs w t299,(.str t299 564),(.ref 180)⟩,⟨hs w t300,(.str t300 580),(.ref 192)⟩,⟨hs w t301,(.str t301 596),(.ref 204)⟩,⟨hs w t302,(.str t302 612),(.ref 216)⟩,⟨hs w t303,(.str t303 628),(.ref 228)⟩,⟨hs w t304,(.str t304 644),(.ref 240)⟩,⟨hs w t305,(.str t305 653),(.ref 249)⟩,⟨hs w t306,(.str t306 660),(.ref 256)⟩,⟨hs w t307,(.str t307 669),(.ref 263)⟩,⟨hs w t308,(.str t308 677),(.ref 270)⟩,⟨hs w t309,(.str t309 685),(.ref 277)⟩,⟨hs w t310,(.str t310 693),(.ref 284)⟩,⟨hs w t311,(.str t311 704),(.ref 291)⟩,⟨hs w t312,(.str t312 715),(.ref 298)⟩,⟨hs w t313,(.str t313 722),(.ref 305)⟩,⟨hs w t314,(.str t314 730),(.ref 312)⟩,⟨hs w t315,(.str t315 738),(.ref 319)⟩,⟨hs w t316,(.str t316 750),(.ref 326)⟩,⟨hs w t317,(.str t317 756),(.ref 331)⟩,⟨hs w t335,(.str t335 762),(.ref 336)⟩,⟨hs w t336,(.str t336 770),(.ref 343)⟩,⟨hs w t337,(.str t337 774),(.int 400 773)⟩,⟨hs w t338,(.str t338 781),(.ref 350)⟩,⟨hs w t339,(.str t339 789),(.ref 357)⟩,⟨hs w t340,(.str t340 797),(.ref 362)⟩,⟨hs w t341,(.str t341 803),(.ref 367)⟩,⟨hs w t342,(.str t342 811),(.ref 374)⟩,⟨hs w t343,(.str t343 818),(.ref 381)⟩,⟨hs w t344,(.str t344 836),(.ref 388)⟩,⟨hs w t345,(.str t345 842),(.ref 393)⟩,⟨hs w t346,(.str t346 853),(.ref 400)⟩,⟨hs w t347,(.str t347 859),(.ref 405)⟩,⟨hs w t348,(.str t348 865),(.ref 410)⟩,⟨hs w t349,(.str t349 874),(.ref 417)⟩,⟨hs w t350,(.str t350 880),(.ref 422)⟩,⟨hs w t351,(.str t351 886),(.ref 427)⟩,⟨hs w t352,(.str t352 892),(.ref 432)⟩,⟨hs w t353,(.str t353 902),(.ref 439)⟩,⟨hs w t354,(.str t354 908),(.ref 444)⟩,⟨hs w t355,(.str t355 919),(.ref 451)⟩,⟨hs w t356,(.str t356 927),(.ref 456)⟩,⟨hs w t357,(.str t357 938),(.ref 463)⟩,⟨hs w t358,(.str t358 949),(.ref 470)⟩,⟨hs w t359,(.str t359 961),(.ref 477)⟩,⟨hs w t360,(.str t360 972),(.ref 484)⟩,⟨hs w t361,(.str t361 983),(.ref 491)⟩,⟨hs w t362,(.str t362 989),(.ref 496)⟩,⟨hs w t363,(.str t363 997),(.ref 503)⟩,⟨hs w t364,(.str t364 1010),(.ref 510)⟩,⟨hs w t365,(.str t365 1016),(.ref 515)⟩,⟨hs w t366,(.str t366 1022),(.ref 520)⟩,⟨hs w t367,(.str t367 1040),(.ref 527)⟩,⟨hs w t368,(.str t368 1053),(.ref 534)⟩,⟨hs w t369,(.str t369 1068),(.ref 541)⟩,⟨hs w t370,(.str t370 1076),(.ref 548)⟩,⟨hs w t371,(.str t371 1084),(.ref 553)⟩,⟨hs w t372,(.str t372 1090),(.ref 558)⟩,⟨hs w t373,(.str t373 1096),(.ref 563)⟩,⟨hs w t374,(.str t374 1102),(.ref 568)⟩,⟨hs w t375,(.str t375 1116),(.ref 575)⟩,⟨hs w t376,(.str t376 1122),(.ref 580)⟩,⟨hs w t377,(.str t377 1128),(.ref 585)⟩,⟨hs w t378,(.str t378 1134),(.ref 590)⟩,⟨hs w t379,(.str t379 1140),(.ref 595)⟩,⟨hs w t380,(.str t380 1156),(.ref 602)⟩,⟨hs w t381,(.str t381 1162),(.ref 607)⟩,⟨hs w t382,(.str t382 1168),(.ref 612)⟩,⟨hs w t383,(.str t383 1174),(.ref 617)⟩,⟨hs w t384,(.str t384 1187),(.ref 624)⟩,⟨hs w t385,(.str t385 1202),(.ref 631)⟩,⟨hs w t386,(.str t386 1208),(.ref 636)⟩,⟨hs w t387,(.str t387 1214),(.ref 641)⟩,⟨hs w t388,(.str t388 1230),(.ref 648)⟩,⟨hs w t389,(.str t389 1244),(.ref 655)⟩,⟨hs w t390,(.str t390 1256),(.ref 662)⟩,⟨hs w t391,(.str t391 1267),(.ref 669)⟩,⟨hs w t392,(.str t392 1277),(.ref 676)⟩,⟨hs w t393,(.str t393 1288),(.ref 683)⟩]⟩ 98),⟨[]⟩⟩
def y40_2 (w : World) : Obj := ⟨.none,none,(.fields ⟨[(.int 3 0),(.int 0 0),(.ref 48),(.int 7 0),(.int 0 0),(.ref 68),(.int 9 0),(.int 0 0),(.ref 80),(.int 11 0),(.int 0 0),(.ref 92),(.int 13 0),(.int 0 0),(.ref 104),(.int 15 0),(.int 0 0),(.ref 116),(.int 17 0),(.int 0 0),(.ref 128),(.int 19 0),(.int 0 0),(.ref 140),(.int 21 0),(.int 0 0),(.ref 152),(.int 23 0),(.int 0 0),(.ref 164),(.int 25 0),(.int 0 0),(.ref 176),(.int 27 0),(.int 0 0),(.ref 188),(.int 29 0),(.int 0 0),(.ref 200),(.int 31 0),(.int 0 0),(.ref 212),(.int 33 0),(.int 0 0),(.ref 224),(.int 35 0),(.int 0 0),(.ref 236),(.int 38 0),(.int 0 0),(.ref 248),(.int 40 0),(.int 0 0),(.ref 255),(.int 42 0),(.int 0 0),(.ref 262),(.int 44 0),(.int 0 0),(.ref 269),(.int 46 0),(.int 0 0),(.ref 276),(.int 48 0),(.int 0 0),(.ref 283),(.int 51 0),(.int 0 0),(.ref 290),(.int 55 0),(.int 0 0),(.ref 297),(.int 64 0),(.int 0 0),(.ref 304),(.int 67 0),(.int 0 0),(.ref 311),(.int 70 0),(.int 0 0),(.ref 318),(.int 72 0),(.int 0 0),(.ref 325),(.int 82 0),(.int 0 0),(.ref 330),(.int 95 0),(.int 0 0),(.ref 335),(.int 97 0),(.int 0 0),(.ref 342),(.int 101 0),(.int 0 0),(.ref 349),(.int 104 0),(.int 0 0),(.ref 356),(.int 108 0),(.int 0 0),(.ref 361),(.int 110 0),(.int 0 0),(.ref 366),(.int 112 0),(.int 0 0),(.ref 373),(.int 114 0),(.int 0 0),(.ref 380),(.int 117 0),(.int 0 0),(.ref 387),(.int 129 0),(.int 0 0),(.ref 392),(.int 144 0),(.int 0 0),(.ref 399),(.int 149 0),(.int 0 0),(.ref 404),(.int 151 0),(.int 0 0),(.ref 409),(.int 158 0),(.int 0 0),(.ref 416),(.int 160 0),(.int 0 0),(.ref 421),(.int 169 0),(.int 0 0),(.ref 426),(.int 177 0),(.int 0 0),(.ref 431),(.int 180 0),(.int 0 0),(.ref 438),(.int 185 0),(.int 0 0),(.ref 443),(.int 200 0),(.int 0 0),(.ref 450),(.int 206 0),(.int 0 0),(.ref 455),(.int 208 0),(.int 0 0),(.ref 462),(.int 213 0),(.int 0 0),(.ref 469),(.int 218 0),(.int 0 0),(.ref 476),(.int 226 0),(.int 0 0),(.ref 483),(.int 229 0),(.int 0 0),(.ref 490),(.int 233 0),(.int 0 0),(.ref 495),(.int 242 0),(.int 0 0),(.ref 502),(.int 245 0),(.int 0 0),(.ref 509),(.int 250 0),(.int 0 0),(.ref 514),(.int 256 0),(.int 0 0),(.ref 519),(.int 268 0),(.int 0 0),(.ref 526),(.int 275 0),(.int 0 0),(.ref 533),(.int 283 0),(.int 0 0),(.ref 540),(.int 298 0),(.int 0 0),(.ref 547),(.int 302 0),(.int 0 0),(.ref 552),(.int 304 0),(.int 0 0),(.ref 557),(.int 306 0),(.int 0 0),(.ref 562),(.int 322 0),(.int 0 0),(.ref 567),(.int 329 0),(.int 0 0),(.ref 574),(.int 334 0),(.int 0 0),(.ref 579),(.int 339 0),(.int 0 0),(.ref 584),(.int 342 0),(.int 0 0),(.ref 589),(.int 350 0),(.int 0 0),(.ref 594),(.int 353 0),(.int 0 0),(.ref 601),(.int 359 0),(.int 0 0),(.ref 606),(.int 367 0),(.int 0 0),(.ref 611),(.int 374 0),(.int 0 0),(.ref 616),(.int 381 0),(.int 0 0),(.ref 623),(.int 392 0),(.int 0 0),(.ref 630),(.int 403 0),(.int 0 0),(.ref 635),(.int 413 0),(.int 0 0),(.ref 640),(.int 431 0),(.int 0 0),(.ref 647),(.int 439 0),(.int 0 0),(.ref 654),(.int 448 0),(.int 0 0),(.ref 661),(.int 456 0),(.int 0 0),(.ref 668),(.int 460 0),(.int 0 0),(.ref 675),(.int 467 0),(.int 0 0),(.ref 682)]⟩),⟨[]⟩⟩
def y332 (w : World) : Obj := ⟨(.type "tuple"),none,(.seq ⟨[]⟩ 0),⟨[]⟩⟩
def y333 (w : World) : Obj := ⟨.none,none,(.fields ⟨[]⟩),⟨[]⟩⟩
def y334 (w : World) : Obj := ⟨.none,none,(.func { name := t335, qualname := t335, params := defArgs (top 33), body := .stmts (defBody (top 33)), scope := defScope (top 33), globals := 0, closure := [], defaults := .none, kwdefaults := .none, doc := .none, pyModule := .none, annotations := none, code := .none, closureTuple := .none, builtins := 0 }),⟨[]⟩⟩
def y335 (w : World) : Obj := ⟨(.type "code"),none,(.fields ⟨[(.str t335 757),(.str t335 758),(.str t178 759),(.int 95 0),(.int 2 0),(.int 0 0),(.int 0 0),(.int 3 0),(.ref 332),(.bool true),(.int 370 0),(.ref 333),.none,.none,.none,(.ref 334),(.int 760 0),(.int 95 0),(.str t178 761)]⟩),⟨[]⟩⟩
def y336 (w : World) : Obj := ⟨(.type "function"),none,(.func { name := t335, qualname := t335, params := defArgs (top 33), body := .stmts (defBody (top 33)), scope := defScope (top 33), globals := 3, closure := [], defaults := .none, kwdefaults := .none, doc := .none, pyModule := (.str t318 694), annotations := none, code := (.ref 335), closureTuple := .none, builtins := 0 }),⟨[]⟩⟩
def y337 (w : World) : Obj := ⟨(.type "tuple"),none,(.seq ⟨[]⟩ 0),⟨[]⟩⟩
def y338 (w : World) : Obj := ⟨.none,none,(.fields ⟨[]⟩),⟨[]⟩⟩
def y339 (w : World) : Obj := ⟨(.type "tuple"),none,(.seq ⟨[(.str t328 766),(.str t330 767)]⟩ 0),⟨[]⟩⟩
def y340 (w : World) : Obj := ⟨(.type "tuple"),none,(.seq ⟨[]⟩ 0),⟨[]⟩⟩
def y341 (w : World) : Obj := ⟨.none,none,(.func { name := t336, qualname := t336, params := defArgs (top 34), body := .stmts (defBody (top 34)), scope := defScope (top 34), globals := 0, closure := [], defaults := .none, kwdefaults := .none, doc := .none, pyModule := .none, annotations := none, code := .none, closureTuple := .none, builtins := 0 }),⟨[]⟩⟩
def y342 (w : World) : Obj := ⟨(.type "code"),none,(.fields ⟨[(.str t336 763),(.str t336 764),(.str t178 765),(.int 97 0),(.int 2 0),(.int 0 0),(.int 0 0),(.int 3 0),(.ref 337),(.bool true),(.int 370 0),(.ref 338),.none,(.ref 339),(.ref 340),(.ref 341),(.int 768 0),(.int 97 0),(.str t178 769)]⟩),⟨[]⟩⟩
def y343 (w : World) : Obj := ⟨(.type "function"),none,(.func { name := t336, qualname := t336, params := defArgs (top 34), body := .stmts (defBody (top 34)), scope := defScope (top 34), globals := 3, closure := [], defaults := .none, kwdefaults := .none, doc := .none, pyModule := (.str t318 694), annotations := none, code := (.ref 342), closureTuple := .none, builtins := 0 }),⟨[]⟩⟩
def y344 (w : World) : Obj := ⟨(.type "tuple"),none,(.seq ⟨[]⟩ 0),⟨[]⟩⟩
def y345 (w : World) : Obj := ⟨.none,none,(.fields ⟨[]⟩),⟨[]⟩⟩
def y346 (w : World) : Obj := ⟨(.type "tuple"),none,(.seq ⟨[(.str t395 778)]⟩ 0),⟨[]⟩⟩
def y347 (w : World) : Obj := ⟨(.type "tuple"),none,(.seq ⟨[]⟩ 0),⟨[]⟩⟩
def y348 (w : World) : Obj := ⟨.none,none,(.func { name := t338, qualname := t338, params := defArgs (top 37), body := .stmts (defBody (top 37)), scope := defScope (top 37), globals := 0, closure := [], defaults := .none, kwdefaults := .none, doc := .none, pyModule := .none, annotations := none, code := .none, closureTuple := .none, builtins := 0 }),⟨[]⟩⟩
def y349 (w : World) : Obj := ⟨(.type "code"),none,(.fields ⟨[(.str t338 775),(.str t338 776),(.str t178 777),(.int 101 0),(.int 1 0),(.int 0 0),(.int 0 0),(.int 3 0),(.ref 344),(.bool true),(.int 370 0),(.ref 345),.none,(.ref 346),(.ref 347),(.ref 348),(.int 779 0),(.int 101 0),(.str t178 780)]⟩),⟨[]⟩⟩
def y350 (w : World) : Obj := ⟨(.type "function"),none,(.func { name := t338, qualname := t338, params := defArgs (top 37), body := .stmts (defBody (top 37)), scope := defScope (top 37), globals := 3, closure := [], defaults := .none, kwdefaults := .none, doc := .none, pyModule := (.str t396 771), annotations := none, code := (.ref 349), closureTuple := .none, builtins := 0 }),⟨[]⟩⟩
def y351 (w : World) : Obj := ⟨(.type "tuple"),none,(.seq ⟨[]⟩ 0),⟨[]⟩⟩
def y352 (w : World) : Obj := ⟨.none,none,(.fields ⟨[]⟩),⟨[]⟩⟩
def y353 (w : World) : Obj := ⟨(.type "tuple"),none,(.seq ⟨[(.str t397 785),(.str t395 786)]⟩ 0),⟨[]⟩⟩
def y354 (w : World) : Obj := ⟨(.type "tuple"),none,(.seq ⟨[]⟩ 0),⟨[]⟩⟩
def y355 (w : World) : Obj := ⟨.none,none,(.func { name := t339, qualname := t339, params := defArgs (top 38), body := .stmts (defBody (top 38)), scope := defScope (top 38), globals := 0, closure := [], defaults := .none, kwdefaults := .none, doc := .none, pyModule := .none, annotations := none, code := .none, closureTuple := .none, builtins := 0 }),⟨[]⟩⟩
def y356 (w : World) : Obj := ⟨(.type "code"),none,(.fields ⟨[(.str t339 782),(.str t339 783),(.str t178 784),(.int 104 0),(.int 2 0),(.int 0 0),(.int 0 0),(.int 3 0),(.ref 351),(.bool true),(.int 370 0),(.ref 352),.none,(.ref 353),(.ref 354),(.ref 355),(.int 787 0),(.int 104 0),(.str t178 788)]⟩),⟨[]⟩⟩
def y357 (w : World) : Obj := ⟨(.type "function"),none,(.func { name := t339, qualname := t339, params := defArgs (top 38), body := .stmts (defBody (top 38)), scope := defScope (top 38), globals := 3, closure := [], defaults := .none, kwdefaults := .none, doc := .none, pyModule := (.str t396 771), annotations := none, code := (.ref 356), closureTuple := .none, builtins := 0 }),⟨[]⟩⟩
def y358 (w : World) : Obj := ⟨(.type "tuple"),none,(.seq ⟨[]⟩ 0),⟨[]⟩⟩
def y359 (w : World) : Obj := ⟨.none,none,(.fields ⟨[]⟩),⟨[]⟩⟩
def y360 (w : World) : Obj := ⟨.none,none,(.func { name := t340, qualname := t340, params := defArgs (top 40), body := .stmts (defBody (top 40)), scope := defScope (top 40), globals := 0, closure := [], defaults := .none, kwdefaults := .none, doc := .none, pyModule := .none, annotations := none, code := .none, closureTuple := .none, builtins := 0 }),⟨[]⟩⟩
def y361 (w : World) : Obj := ⟨(.type "code"),none,(.fields ⟨[(.str t340 792),(.str t340 793),(.str t178 794),(.int 108 0),(.int 2 0),(.int 0 0),(.int 0 0),(.int 3 0),(.ref 358),(.bool true),(.int 370 0),(.ref 359),.none,.none,.none,(.ref 360),(.int 795 0),(.int 108 0),(.str t178 796)]⟩),⟨[]⟩⟩
def y362 (w : World) : Obj := ⟨(.type "function"),none,(.func { name := t340, qualname := t340, params := defArgs (top 40), body := .stmts (defBody (top 40)), scope := defScope (top 40), globals := 3, closure := [], defaults := .none, kwdefaults := .none, doc := .none, pyModule := (.str t398 790), annotations := none, code := (.ref 361), closureTuple := .none, builtins := 0 }),⟨[]⟩⟩
def y363 (w : World) : Obj := ⟨(.type "tuple"),none,(.seq ⟨[]⟩ 0),⟨[]⟩⟩
def y364 (w : World) : Obj := ⟨.none,none,(.fields ⟨[]⟩),⟨[]⟩⟩
def y365 (w : World) : Obj := ⟨.none,none,(.func { name := t341, qualname := t341, params := defArgs (top 41), body := .stmts (defBody (top 41)), scope := defScope (top 41), globals := 0, closure := [], defaults := .none, kwdefaults := .none, doc := .none, pyModule := .none, annotations := none, code := .none, closureTuple := .none, builtins := 0 }),⟨[]⟩⟩
def y366 (w : World) : Obj := ⟨(.type "code"),none,(.fields ⟨[(.str t341 798),(.str t341 799),(.str t178 800),(.int 110 0),(.int 2 0),(.int 0 0),(.int 0 0),(.int 3 0),(.ref 363),(.bool true),(.int 370 0),(.ref 364),.none,.none,.none,(.ref 365),(.int 801 0),(.int 110 0),(.str t178 802)]⟩),⟨[]⟩⟩
def y367 (w : World) : Obj := ⟨(.type "function"),none,(.func { name := t341, qualname := t341, params := defArgs (top 41), body := .stmts (defBody (top 41)), scope := defScope (top 41), globals := 3, closure := [], defaults := .none, kwdefaults := .none, doc := .none, pyModule := (.str t398 790), annotations := none, code := (.ref 366), closureTuple := .none, builtins := 0 }),⟨[]⟩⟩
def y368 (w : World) : Obj := ⟨(.type "tuple"),none,(.seq ⟨[]⟩ 0),⟨[]⟩⟩
def y369 (w : World) : Obj := ⟨.none,none,(.fields ⟨[]⟩),⟨[]⟩⟩
def y370 (w : World) : Obj := ⟨(.type "tuple"),none,(.seq ⟨[(.str t399 807),(.str t400 808)]⟩ 0),⟨[]⟩⟩
def y371 (w : World) : Obj := ⟨(.type "tuple"),none,(.seq ⟨[]⟩ 0),⟨[]⟩⟩
def y372 (w : World) : Obj := ⟨.none,none,(.func { name := t342, qualname := t342, params := defArgs (top 42), body := .stmts (defBody (top 42)), scope := defScope (top 42), globals := 0, closure := [], defaults := .none, kwdefaults := .none, doc := .none, pyModule := .none, annotations := none, code := .none, closureTuple := .none, builtins := 0 }),⟨[]⟩⟩
def y373 (w : World) : Obj := ⟨(.type "code"),none,(.fields ⟨[(.str t342 804),(.str t342 805),(.str t178 806),(.int 112 0),(.int 2 0),(.int 0 0),(.int 0 0),(.int 3 0),(.ref 368),(.bool true),(.int 370 0),(.ref 369),.none,(.ref 370),(.ref 371),(.ref 372),(.int 809 0),(.int 112 0),(.str t178 810)]⟩),⟨[]⟩⟩
def y374 (w : World) : Obj := ⟨(.type "function"),none,(.func { name := t342, qualname := t342, params := defArgs (top 42), body := .stmts (defBody (top 42)), scope := defScope (top 42), globals := 3, closure := [], defaults := .none, kwdefaults := .none, doc := .none, pyModule := (.str t398 790), annotations := none, code := (.ref 373), closureTuple := .none, builtins := 0 }),⟨[]⟩⟩
def y375 (w : World) : Obj := ⟨(.type "tuple"),none,(.seq ⟨[]⟩ 0),⟨[]⟩⟩
def y376 (w : World) : Obj := ⟨.none,none,(.fields ⟨[]⟩),⟨[]⟩⟩
def y377 (w : World) : Obj := ⟨(.type "tuple"),none,(.seq ⟨[(.str t329 815)]⟩ 0),⟨[]⟩⟩
def y378 (w : World) : Obj := ⟨(.type "tuple"),none,(.seq ⟨[]⟩ 0),⟨[]⟩⟩
def y379 (w : World) : Obj := ⟨.none,none,(.func { name := t343, qualname := t343, params := defArgs (top 43), body := .stmts (defBody (top 43)), scope := defScope (top 43), globals := 0, closure := [], defaults := .none, kwdefaults := .none, doc := .none, pyModule := .none, annotations := none, code := .none, closureTuple := .none, builtins := 0 }),⟨[]⟩⟩
def y380 (w : World) : Obj := ⟨(.type "code"),none,(.fields ⟨[(.str t343 812),(.str t343 813),(.str t178 814),(.int 114 0),(.int 1 0),(.int 0 0),(.int 0 0),(.int 3 0),(.ref 375),(.bool true),(.int 370 0),(.ref 376),.none,(.ref 377),(.ref 378),(.ref 379),(.int 816 0),(.int 114 0),(.str t178 817)]⟩),⟨[]⟩⟩
def y381 (w : World) : Obj := ⟨(.type "function"),none,(.func { name := t343, qualname := t343, params := defArgs (top 43), body := .stmts (defBody (top 43)), scope := defScope (top 43), globals := 3, closure := [], defaults := .none, kwdefaults := .none, doc := .none, pyModule := (.str t398 790), annotations := none, code := (.ref 380), closureTuple := .none, builtins := 0 }),⟨[]⟩⟩
def y382 (w : World) : Obj := ⟨(.type "tuple"),none,(.seq ⟨[]⟩ 0),⟨[]⟩⟩
def y383 (w : World) : Obj := ⟨.none,none,(.fields ⟨[]⟩),⟨[]⟩⟩
def y384 (w : World) : Obj := ⟨(.type "tuple"),none,(.seq ⟨[(.str t326 824),(.str t401 825),(.str t402 826),(.str t403 827),(.str t404 828),(.str t405 829),(.str t406 830),(.str t407 831),(.str t408 832),(.str t409 833)]⟩ 0),⟨[]⟩⟩
def y385 (w : World) : Obj := ⟨(.type "tuple"),none,(.seq ⟨[]⟩ 0),⟨[]⟩⟩
def y386 (w : World) : Obj := ⟨.none,none,(.func { name := t344, qualname := t344, params := defArgs (top 45), body := .stmts (defBody (top 45)), scope := defScope (top 45), globals := 0, closure := [], defaults := .none, kwdefaults := .none, doc := .none, pyModule := .none, annotations := none, code := .none, closureTuple := .none, builtins := 0 }),⟨[]⟩⟩
def y387 (w : World) : Obj := ⟨(.type "code"),none,(.fields ⟨[(.str t344 821),(.str t344 822),(.str t178 823),(.int 117 0),(.int 3 0),(.int 0 0),(.int 0 0),(.int 3 0),(.ref 382),(.bool true),(.int 370 0),(.ref 383),.none,(.ref 384),(.ref 385),(.ref 386),(.int 834 0),(.int 117 0),(.str t178 835)]⟩),⟨[]⟩⟩
def y388 (w : World) : Obj := ⟨(.type "function"),none,(.func { name := t344, qualname := t344, params := defArgs (top 45), body := .stmts (defBody (top 45)), scope := defScope (top 45), globals := 3, closure := [], defaults := .none, kwdefaults := .none, doc := .none, pyModule := (.str t410 819), annotations := none, code := (.ref 387), closureTuple := .none, builtins := 0 }),⟨[]⟩⟩
def y389 (w : World) : Obj := ⟨(.type "tuple"),none,(.seq ⟨[]⟩ 0),⟨[]⟩⟩
def y390 (w : World) : Obj := ⟨.none,none,(.fields ⟨[]⟩),⟨[]⟩⟩
def y391 (w : World) : Obj := ⟨.none,none,(.func { name := t345, qualname := t345, params := defArgs (top 46), body := .stmts (defBody (top 46)), scope := defScope (top 46), globals := 0, closure := [], defaults := .none, kwdefaults := .none, doc := .none, pyModule := .none, annotations := none, code := .none, closureTuple := .none, builtins := 0 }),⟨[]⟩⟩
def y392 (w : World) : Obj := ⟨(.type "code"),none,(.fields ⟨[(.str t345 837),(.str t345 838),(.str t178 839),(.int 129 0),(.int 2 0),(.int 0 0),(.int 0 0),(.int 3 0),(.ref 389),(.bool true),(.int 370 0),(.ref 390),.none,.none,.none,(.ref 391),(.int 840 0),(.int 129 0),(.str t178 841)]⟩),⟨[]⟩⟩
def y393 (w : World) : Obj := ⟨(.type "function"),none,(.func { name := t345, qualname := t345, params := defArgs (top 46), body := .stmts (defBody (top 46)), scope := defScope (top 46), globals := 3, closure := [], defaults := .none, kwdefaults := .none, doc := .none, pyModule := (.str t410 819), annotations := none, code := (.ref 392), closureTuple := .none, builtins := 0 }),⟨[]⟩⟩
def y394 (w : World) : Obj := ⟨(.type "tuple"),none,(.seq ⟨[]⟩ 0),⟨[]⟩⟩
def y395 (w : World) : Obj := ⟨.none,none,(.fields ⟨[]⟩),⟨[]⟩⟩
def y396 (w : World) : Obj := ⟨(.type "tuple"),none,(.seq ⟨[(.str t411 848),(.str t332 849),(.str t412 850)]⟩ 0),⟨[]⟩⟩
def y397 (w : World) : Obj := ⟨(.type "tuple"),none,(.seq ⟨[]⟩ 0),⟨[]⟩⟩
def y398 (w : World) : Obj := ⟨.none,none,(.func { name := t346, qualname := t346, params := defArgs (top 48), body := .stmts (defBody (top 48)), scope := defScope (top 48), globals := 0, closure := [], defaults := .none, kwdefaults := .none, doc := .none, pyModule := .none, annotations := none, code := .none, closureTuple := .none, builtins := 0 }),⟨[]⟩⟩
def y399 (w : World) : Obj := ⟨(.type "code"),none,(.fields ⟨[(.str t346 845),(.str t346 846),(.str t178 847),(.int 144 0),(.int 1 0),(.int 0 0),(.int 0 0),(.int 3 0),(.ref 394),(.bool true),(.int 370 0),(.ref 395),.none,(.ref 396),(.ref 397),(.ref 398),(.int 851 0),(.int 144 0),(.str t178 852)]⟩),⟨[]⟩⟩
def y400 (w : World) : Obj := ⟨(.type "function"),none,(.func { name := t346, qualname := t346, params := defArgs (top 48), body := .stmts (defBody (top 48)), scope := defScope (top 48), globals := 3, closure := [], defaults := .none, kwdefaults := .none, doc := .none, pyModule := (.str t413 843), annotations := none, code := (.ref 399), closureTuple := .none, builtins := 0 }),⟨[]⟩⟩
def y401 (w : World) : Obj := ⟨(.type "tuple"),none,(.seq ⟨[]⟩ 0),⟨[]⟩⟩
def y402 (w : World) : Obj := ⟨.none,none,(.fields ⟨[]⟩),⟨[]⟩⟩
def y403 (w : World) : Obj := ⟨.none,none,(.func { name := t347, qualname := t347, params := defArgs (top 49), body := .stmts (defBody (top 49)), scope := defScope (top 49), globals := 0, closure := [], defaults := .none, kwdefaults := .none, doc := .none, pyModule := .none, annotations := none, code := .none, closureTuple := .none, builtins := 0 }),⟨[]⟩⟩
def y404 (w : World) : Obj := ⟨(.type "code"),none,(.fields ⟨[(.str t347 854),(.str t347 855),(.str t178 856),(.int 149 0),(.int 2 0),(.int 0 0),(.int 0 0),(.int 3 0),(.ref 401),(.bool true),(.int 370 0),(.ref 402),.none,.none,.none,(.ref 403),(.int 857 0),(.int 149 0),(.str t178 858)]⟩),⟨[]⟩⟩
def y405 (w : World) : Obj := ⟨(.type "function"),none,(.func { name := t347, qualname := t347, params := defArgs (top 49), body := .stmts (defBody (top 49)), scope := defScope (top 49), globals := 3, closure := [], defaults := .none, kwdefaults := .none, doc := .none, pyModule := (.str t413 843), annotations := none, code := (.ref 404), closureTuple := .none, builtins := 0 }),⟨[]⟩⟩
def y406 (w : World) : Obj := ⟨(.type "tuple"),none,(.seq ⟨[]⟩ 0),⟨[]⟩⟩
def y407 (w : World) : Obj := ⟨.none,none,(.fields ⟨[]⟩),⟨[]⟩⟩
def y408 (w : World) : Obj := ⟨.none,none,(.func { name := t348, qualname := t348, params := defArgs (top 50), body := .stmts (defBody (top 50)), scope := defScope (top 50), globals := 0, closure := [], defaults := .none, kwdefaults := .none, doc := .none, pyModule := .none, annotations := none, code := .none, closureTuple := .none, builtins := 0 }),⟨[]⟩⟩
def y409 (w : World) : Obj := ⟨(.type "code"),none,(.fields ⟨[(.str t348 860),(.str t348 861),(.str t178 862),(.int 151 0),(.int 1 0),(.int 0 0),(.int 0 0),(.int 3 0),(.ref 406),(.bool true),(.int 370 0),(.ref 407),.none,.none,.none,(.ref 408),(.int 863 0),(.int 151 0),(.str t178 864)]⟩),⟨[]⟩⟩
def y410 (w : World) : Obj := ⟨(.type "function"),none,(.func { name := t348, qualname := t348, params := defArgs (top 50), body := .stmts (defBody (top 50)), scope := defScope (top 50), globals := 3, closure := [], defaults := .none, kwdefaults := .none, doc := .none, pyModule := (.str t413 843), annotations := none, code := (.ref 409), closureTuple := .none, builtins := 0 }),⟨[]⟩⟩
def y411 (w : World) : Obj := ⟨(.type "tuple"),none,(.seq ⟨[]⟩ 0),⟨[]⟩⟩
def y412 (w : World) : Obj := ⟨.none,none,(.fields ⟨[]⟩),⟨[]⟩⟩
def y413 (w : World) : Obj := ⟨(.type "tuple"),none,(.seq ⟨[(.str t324 871)]⟩ 0),⟨[]⟩⟩
def y414 (w : World) : Obj := ⟨(.type "tuple"),none,(.seq ⟨[]⟩ 0),⟨[]⟩⟩
def y415 (w : World) : Obj := ⟨.none,none,(.func { name := t349, qualname := t349, params := defArgs (top 52), body := .stmts (defBody (top 52)), scope := defScope (top 52), globals := 0, closure := [], defaults := .none, kwdefaults := .none, doc := .none, pyModule := .none, annotations := none, code := .none, closureTuple := .none, builtins := 0 }),⟨[]⟩⟩
def y416 (w : World) : Obj := ⟨(.type "code"),none,(.fields ⟨[(.str t349 868),(.str t349 869),(.str t178 870),(.int 158 0),(.int 1 0),(.int 0 0),(.int 0 0),(.int 3 0),(.ref 411),(.bool true),(.int 370 0),(.ref 412),.none,(.ref 413),(.ref 414),(.ref 415),(.int 872 0),(.int 158 0),(.str t178 873)]⟩),⟨[]⟩⟩
def y417 (w : World) : Obj := ⟨(.type "function"),none,(.func { name := t349, qualname := t349, params := defArgs (top 52), body := .stmts (defBody (top 52)), scope := defScope (top 52), globals := 3, closure := [], defaults := .none, kwdefaults := .none, doc := .none, pyModule := (.str t414 866), annotations := none, code := (.ref 416), closureTuple := .none, builtins := 0 }),⟨[]⟩⟩
def y418 (w : World) : Obj := ⟨(.type "tuple"),none,(.seq ⟨[]⟩ 0),⟨[]⟩⟩
def y419 (w : World) : Obj := ⟨.none,none,(.fields ⟨[]⟩),⟨[]⟩⟩
def y420 (w : World) : Obj := ⟨.none,none,(.func { name := t350, qualname := t350, params := defArgs (top 53), body := .stmts (defBody (top 53)), scope := defScope (top 53), globals := 0, closure := [], defaults := .none, kwdefaults := .none, doc := .none, pyModule := .none, annotations := none, code := .none, closureTuple := .none, builtins := 0 }),⟨[]⟩⟩
def y421 (w : World) : Obj := ⟨(.type "code"),none,(.fields ⟨[(.str t350 875),(.str t350 876),(.str t178 877),(.int 160 0),(.int 2 0),(.int 0 0),(.int 0 0),(.int 3 0),(.ref 418),(.bool true),(.int 370 0),(.ref 419),.none,.none,.none,(.ref 420),(.int 878 0),(.int 160 0),(.str t178 879)]⟩),⟨[]⟩⟩
def y422 (w : World) : Obj := ⟨(.type "function"),none,(.func { name := t350, qualname := t350, params := defArgs (top 53), body := .stmts (defBody (top 53)), scope := defScope (top 53), globals := 3, closure := [], defaults := .none, kwdefaults := .none, doc := .none, pyModule := (.str t414 866), annotations := none, code := (.ref 421), closureTuple := .none, builtins := 0 }),⟨[]⟩⟩
def y423 (w : World) : Obj := ⟨(.type "tuple"),none,(.seq ⟨[]⟩ 0),⟨[]⟩⟩
def y424 (w : World) : Obj := ⟨.none,none,(.fields ⟨[]⟩),⟨[]⟩⟩
def y425 (w : World) : Obj := ⟨.none,none,(.func { name := t351, qualname := t351, params := defArgs (top 54), body := .stmts (defBody (top 54)), scope := defScope (top 54), globals := 0, closure := [], defaults := .none, kwdefaults := .none, doc := .none, pyModule := .none, annotations := none, code := .none, closureTuple := .none, builtins := 0 }),⟨[]⟩⟩
def y426 (w : World) : Obj := ⟨(.type "code"),none,(.fields ⟨[(.str t351 881),(.str t351 882),(.str t178 883),(.int 169 0),(.int 1 0),(.int 0 0),(.int 0 0),(.int 3 0),(.ref 423),(.bool true),(.int 370 0),(.ref 424),.none,.none,.none,(.ref 425),(.int 884 0),(.int 169 0),(.str t178 885)]⟩),⟨[]⟩⟩
def y427 (w : World) : Obj := ⟨(.type "function"),none,(.func { name := t351, qualname := t351, params := defArgs (top 54), body := .stmts (defBody (top 54)), scope := defScope (top 54), globals := 3, closure := [], defaults := .none, kwdefaults := .none, doc := .none, pyModule := (.str t414 866), annotations := none, code := (.ref 426), closureTuple := .none, builtins := 0 }),⟨[]⟩⟩
def y428 (w : World) : Obj := ⟨(.type "tuple"),none,(.seq ⟨[]⟩ 0),⟨[]⟩⟩
def y429 (w : World) : Obj := ⟨.none,none,(.fields ⟨[]⟩),⟨[]⟩⟩
def y430 (w : World) : Obj := ⟨.none,none,(.func { name := t352, qualname := t352, params := defArgs (top 55), body := .stmts (defBody (top 55)), scope := defScope (top 55), globals := 0, closure := [], defaults := .none, kwdefaults := .none, doc := .none, pyModule := .none, annotations := none, code := .none, closureTuple := .none, builtins := 0 }),⟨[]⟩⟩
def y431 (w : World) : Obj := ⟨(.type "code"),none,(.fields ⟨[(.str t352 887),(.str t352 888),(.str t178 889),(.int 177 0),(.int 4 0),(.int 0 0),(.int 0 0),(.int 3 0),(.ref 428),(.bool true),(.int 370 0),(.ref 429),.none,.none,.none,(.ref 430),(.int 890 0),(.int 177 0),(.str t178 891)]⟩),⟨[]⟩⟩
def y432 (w : World) : Obj := ⟨(.type "function"),none,(.func { name := t352, qualname := t352, params := defArgs (top 55), body := .stmts (defBody (top 55)), scope := defScope (top 55), globals := 3, closure := [], defaults := .none, kwdefaults := .none, doc := .none, pyModule := (.str t414 866), annotations := none, code := (.ref 431), closureTuple := .none, builtins := 0 }),⟨[]⟩⟩
def y433 (w : World) : Obj := ⟨(.type "tuple"),none,(.seq ⟨[]⟩ 0),⟨[]⟩⟩
def y434 (w : World) : Obj := ⟨.none,none,(.fields ⟨[]⟩),⟨[]⟩⟩
def y435 (w : World) : Obj := ⟨(.type "tuple"),none,(.seq ⟨[(.str t397 896),(.str t329 897),(.str t415 898),(.str t408 899)]⟩ 0),⟨[]⟩⟩
def y436 (w : World) : Obj := ⟨(.type "tuple"),none,(.seq ⟨[]⟩ 0),⟨[]⟩⟩
def y437 (w : World) : Obj := ⟨.none,none,(.func { name := t353, qualname := t353, params := defArgs (top 56), body := .stmts (defBody (top 56)), scope := defScope (top 56), globals := 0, closure := [], defaults := .none, kwdefaults := .none, doc := .none, pyModule := .none, annotations := none, code := .none, closureTuple := .none, builtins := 0 }),⟨[]⟩⟩
def y438 (w : World) : Obj := ⟨(.type "code"),none,(.fields ⟨[(.str t353 893),(.str t353 894),(.str t178 895),(.int 180 0),(.int 2 0),(.int 0 0),(.int 0 0),(.int 3 0),(.ref 433),(.bool true),(.int 370 0),(.ref 434),.none,(.ref 435),(.ref 436),(.ref 437),(.int 900 0),(.int 180 0),(.str t178 901)]⟩),⟨[]⟩⟩
def y439 (w : World) : Obj := ⟨(.type "function"),none,(.func { name := t353, qualname := t353, params := defArgs (top 56), body := .stmts (defBody (top 56)), scope := defScope (top 56), globals := 3, closure := [], defaults := .none, kwdefaults := .none, doc := .none, pyModule := (.str t414 866), annotations := none, code := (.ref 438), closureTuple := .none, builtins := 0 }),⟨[]⟩⟩
def y440 (w : World) : Obj := ⟨(.type "tuple"),none,(.seq ⟨[]⟩ 0),⟨[]⟩⟩
def y441 (w : World) : Obj := ⟨.none,none,(.fields ⟨[]⟩),⟨[]⟩⟩
def y442 (w : World) : Obj := ⟨.none,none,(.func { name := t354, qualname := t354, params := defArgs (top 57), body := .stmts (defBody (top 57)), scope := defScope (top 57), globals := 0, closure := [], defaults := .none, kwdefaults := .none, doc := .none, pyModule := .none, annotations := none, code := .none, closureTuple := .none, builtins := 0 }),⟨[]⟩⟩
def y443 (w : World) : Obj := ⟨(.type "code"),none,(.fields ⟨[(.str t354 903),(.str t354 904),(.str t178 905),(.int 185 0),(.int 1 0),(.int 0 0),(.int 0 0),(.int 3 0),(.ref 440),(.bool true),(.int 370 0),(.ref 441),.none,.none,.none,(.ref 442),(.int 906 0),(.int 185 0),(.str t178 907)]⟩),⟨[]⟩⟩
def y444 (w : World) : Obj := ⟨(.type "function"),none,(.func { name := t354, qualname := t354, params := defArgs (top 57), body := .stmts (defBody (top 57)), scope := defScope (top 57), globals := 3, closure := [], defaults := .none, kwdefaults := .none, doc := .none, pyModule := (.str t414 866), annotations := none, code := (.ref 443), closureTuple := .none, builtins := 0 }),⟨[]⟩⟩
def y445 (w : World) : Obj := ⟨(.type "tuple"),none,(.seq ⟨[]⟩ 0),⟨[]⟩⟩
def y446 (w : World) : Obj := ⟨.none,none,(.fields ⟨[]⟩),⟨[]⟩⟩
def y447 (w : World) : Obj := ⟨(.type "tuple"),none,(.seq ⟨[(.str t399 912),(.str t400 913),(.str t401 914)]⟩ 0),⟨[]⟩⟩
def y448 (w : World) : Obj := ⟨(.type "tuple"),none,(.seq ⟨[(.str t399 915),(.str t400 916)]⟩ 0),⟨[]⟩⟩
def y449 (w : World) : Obj := ⟨.none,none,(.func { name := t355, qualname := t355, params := defArgs (top 58), body := .stmts (defBody (top 58)), scope := defScope (top 58), globals := 0, closure := [], defaults := .none, kwdefaults := .none, doc := .none, pyModule := .none, annotations := none, code := .none, closureTuple := .none, builtins := 0 }),⟨[]⟩⟩
def y450 (w : World) : Obj := ⟨(.type "code"),none,(.fields ⟨[(.str t355 909),(.str t355 910),(.str t178 911),(.int 200 0),(.int 2 0),(.int 0 0),(.int 0 0),(.int 3 0),(.ref 445),(.bool true),(.int 370 0),(.ref 446),.none,(.ref 447),(.ref 448),(.ref 449),(.int 917 0),(.int 200 0),(.str t178 918)]⟩),⟨[]⟩⟩
def y451 (w : World) : Obj := ⟨(.type "function"),none,(.func { name := t355, qualname := t355, params := defArgs (top 58), body := .stmts (defBody (top 58)), scope := defScope (top 58), globals := 3, closure := [], defaults := .none, kwdefaults := .none, doc := .none, pyModule := (.str t414 866), annotations := none, code := (.ref 450), closureTuple := .none, builtins := 0 }),⟨[]⟩⟩
def y452 (w : World) : Obj := ⟨(.type "tuple"),none,(.seq ⟨[]⟩ 0),⟨[]⟩⟩
def y453 (w : World) : Obj := ⟨.none,none,(.fields ⟨[]⟩),⟨[]⟩⟩
def y454 (w : World) : Obj := ⟨.none,none,(.func { name := t356, qualname := t356, params := defArgs (top 60), body := .stmts (defBody (top 60)), scope := defScope (top 60), globals := 0, closure := [], defaults := .none, kwdefaults := .none, doc := .none, pyModule := .none, annotations := none, code := .none, closureTuple := .none, builtins := 0 }),⟨[]⟩⟩
def y455 (w : World) : Obj := ⟨(.type "code"),none,(.fields ⟨[(.str t356 922),(.str t356 923),(.str t178 924),(.int 206 0),(.int 1 0),(.int 0 0),(.int 0 0),(.int 3 0),(.ref 452),(.bool true),(.int 370 0),(.ref 453),.none,.none,.none,(.ref 454),(.int 925 0),(.int 206 0),(.str t178 926)]⟩),⟨[]⟩⟩
def y456 (w : World) : Obj := ⟨(.type "function"),none,(.func { name := t356, qualname := t356, params := defArgs (top 60), body := .stmts (defBody (top 60)), scope := defScope (top 60), globals := 3, closure := [], defaults := .none, kwdefaults := .none, doc := .none, pyModule := (.str t416 920), annotations := none, code := (.ref 455), closureTuple := .none, builtins := 0 }),⟨[]⟩⟩
def y457 (w : World) : Obj := ⟨(.type "tuple"),none,(.seq ⟨[]⟩ 0),⟨[]⟩⟩
def y458 (w : World) : Obj := ⟨.none,none,(.fields ⟨[]⟩),⟨[]⟩⟩
def y459 (w : World) : Obj := ⟨(.type "tuple"),none,(.seq ⟨[(.str t399 931),(.str t400 932),(.str t401 933)]⟩ 0),⟨[]⟩⟩
def y460 (w : World) : Obj := ⟨(.type "tuple"),none,(.seq ⟨[(.str t399 934),(.str t400 935)]⟩ 0),⟨[]⟩⟩
def y461 (w : World) : Obj := ⟨.none,none,(.func { name := t357, qualname := t357, params := defArgs (top 61), body := .stmts (defBody (top 61)), scope := defScope (top 61), globals := 0, closure := [], defaults := .none, kwdefaults := .none, doc := .none, pyModule := .none, annotations := none, code := .none, closureTuple := .none, builtins := 0 }),⟨[]⟩⟩
def y462 (w : World) : Obj := ⟨(.type "code"),none,(.fields ⟨[(.str t357 928),(.str t357 929),(.str t178 930),(.int 208 0),(.int 2 0),(.int 0 0),(.int 0 0),(.int 3 0),(.ref 457),(.bool true),(.int 370 0),(.ref 458),.none,(.ref 459),(.ref 460),(.ref 461),(.int 936 0),(.int 208 0),(.str t178 937)]⟩),⟨[]⟩⟩
def y463 (w : World) : Obj := ⟨(.type "function"),none,(.func { name := t357, qualname := t357, params := defArgs (top 61), body := .stmts (defBody (top 61)), scope := defScope (top 61), globals := 3, closure := [], defaults := .none, kwdefaults := .none, doc := .none, pyModule := (.str t416 920), annotations := none, code := (.ref 462), closureTuple := .none, builtins := 0 }),⟨[]⟩⟩
def y464 (w : World) : Obj := ⟨(.type "tuple"),none,(.seq ⟨[]⟩ 0),⟨[]⟩⟩
def y465 (w : World) : Obj := ⟨.none,none,(.fields ⟨[]⟩),⟨[]⟩⟩
def y466 (w : World) : Obj := ⟨(.type "tuple"),none,(.seq ⟨[(.str t399 942),(.str t400 943),(.str t401 944)]⟩ 0),⟨[]⟩⟩
def y467 (w : World) : Obj := ⟨(.type "tuple"),none,(.seq ⟨[(.str t399 945),(.str t400 946)]⟩ 0),⟨[]⟩⟩
def y468 (w : World) : Obj := ⟨.none,none,(.func { name := t358, qualname := t358, params := defArgs (top 62), body := .stmts (defBody (top 62)), scope := defScope (top 62), globals := 0, closure := [], defaults := .none, kwdefaults := .none, doc := .none, pyModule := .none, annotations := none, code := .none, closureTuple := .none, builtins := 0 }),⟨[]⟩⟩
def y469 (w : World) : Obj := ⟨(.type "code"),none,(.fields ⟨[(.str t358 939),(.str t358 940),(.str t178 941),(.int 213 0),(.int 2 0),(.int 0 0),(.int 0 0),(.int 3 0),(.ref 464),(.bool true),(.int 370 0),(.ref 465),.none,(.ref 466),(.ref 467),(.ref 468),(.int 947 0),(.int 213 0),(.str t178 948)]⟩),⟨[]⟩⟩
def y470 (w : World) : Obj := ⟨(.type "function"),none,(.func { name := t358, qualname := t358, params := defArgs (top 62), body := .stmts (defBody (top 62)), scope := defScope (top 62), globals := 3, closure := [], defaults := .none, kwdefaults := .none, doc := .none, pyModule := (.str t416 920), annotations := none, code := (.ref 469), closureTuple := .none, builtins := 0 }),⟨[]⟩⟩
def y471 (w : World) : Obj := ⟨(.type "tuple"),none,(.seq ⟨[]⟩ 0),⟨[]⟩⟩
def y472 (w : World) : Obj := ⟨.none,none,(.fields ⟨[]⟩),⟨[]⟩⟩
def y473 (w : World) : Obj := ⟨(.type "tuple"),none,(.seq ⟨[(.str t403 953),(.str t324 954),(.str t332 955),(.str t408 956),(.str t417 957),(.str t418 958)]⟩ 0),⟨[]⟩⟩
def y474 (w : World) : Obj := ⟨(.type "tuple"),none,(.seq ⟨[]⟩ 0),⟨[]⟩⟩
def y475 (w : World) : Obj := ⟨.none,none,(.func { name := t359, qualname := t359, params := defArgs (top 63), body := .stmts (defBody (top 63)), scope := defScope (top 63), globals := 0, closure := [], defaults := .none, kwdefaults := .none, doc := .none, pyModule := .none, annotations := none, code := .none, closureTuple := .none, builtins := 0 }),⟨[]⟩⟩
def y476 (w : World) : Obj := ⟨(.type "code"),none,(.fields ⟨[(.str t359 950),(.str t359 951),(.str t178 952),(.int 218 0),(.int 2 0),(.int 0 0),(.int 0 0),(.int 3 0),(.ref 471),(.bool true),(.int 370 0),(.ref 472),.none,(.ref 473),(.ref 474),(.ref 475),(.int 959 0),(.int 218 0),(.str t178 960)]⟩),⟨[]⟩⟩
def y477 (w : World) : Obj := ⟨(.type "function"),none,(.func { name := t359, qualname := t359, params := defArgs (top 63), body := .stmts (defBody (top 63)), scope := defScope (top 63), globals := 3, closure := [], defaults := .none, kwdefaults := .none, doc := .none, pyModule := (.str t416 920), annotations := none, code := (.ref 476), closureTuple := .none, builtins := 0 }),⟨[]⟩⟩
def y478 (w : World) : Obj := ⟨(.type "tuple"),none,(.seq ⟨[]⟩ 0),⟨[]⟩⟩
def y479 (w : World) : Obj := ⟨.none,none,(.fields ⟨[]⟩),⟨[]⟩⟩
def y480 (w : World) : Obj := ⟨(.type "tuple"),none,(.seq ⟨[(.str t397 965),(.str t403 966),(.str t324 967)]⟩ 0),⟨[]⟩⟩
def y481 (w : World) : Obj := ⟨(.type "tuple"),none,(.seq ⟨[(.str t397 968),(.str t417 969)]⟩ 0),⟨[]⟩⟩
def y482 (w : World) : Obj := ⟨.none,none,(.func { name := t360, qualname := t360, params := defArgs (top 64), body := .stmts (defBody (top 64)), scope := defScope (top 64), globals := 0, closure := [], defaults := .none, kwdefaults := .none, doc := .none, pyModule := .none, annotations := none, code := .none, closureTuple := .none, builtins := 0 }),⟨[]⟩⟩
def y483 (w : World) : Obj := ⟨(.type "code"),none,(.fields ⟨[(.str t360 962),(.str t360 963),(.str t178 964),(.int 226 0),(.int 3 0),(.int 0 0),(.int 0 0),(.int 3 0),(.ref 478),(.bool true),(.int 370 0),(.ref 479),.none,(.ref 480),(.ref 481),(.ref 482),(.int 970 0),(.int 226 0),(.str t178 971)]⟩),⟨[]⟩⟩
def y484 (w : World) : Obj := ⟨(.type "function"),none,(.func { name := t360, qualname := t360, params := defArgs (top 64), body := .stmts (defBody (top 64)), scope := defScope (top 64), globals := 3, closure := [], defaults := .none, kwdefaults := .none, doc := .none, pyModule := (.str t416 920), annotations := none, code := (.ref 483), closureTuple := .none, builtins := 0 }),⟨[]⟩⟩
def y485 (w : World) : Obj := ⟨(.type "tuple"),none,(.seq ⟨[]⟩ 0),⟨[]⟩⟩
def y486 (w : World) : Obj := ⟨.none,none,(.fields ⟨[]⟩),⟨[]⟩⟩
def y487 (w : World) : Obj := ⟨(.type "tuple"),none,(.seq ⟨[(.str t324 976),(.str t419 977),(.str t408 978),(.str t420 979),(.str t421 980)]⟩ 0),⟨[]⟩⟩
def y488 (w : World) : Obj := ⟨(.type "tuple"),none,(.seq ⟨[]⟩ 0),⟨[]⟩⟩
def y489 (w : World) : Obj := ⟨.none,none,(.func { name := t361, qualname := t361, params := defArgs (top 65), body := .stmts (defBody (top 65)), scope := defScope (top 65), globals := 0, closure := [], defaults := .none, kwdefaults := .none, doc := .none, pyModule := .none, annotations := none, code := .none, closureTuple := .none, builtins := 0 }),⟨[]⟩⟩
def y490 (w : World) : Obj := ⟨(.type "code"),none,(.fields ⟨[(.str t361 973),(.str t361 974),(.str t178 975),(.int 229 0),(.int 3 0),(.int 0 0),(.int 0 0),(.int 3 0),(.ref 485),(.bool true),(.int 370 0),(.ref 486),.none,(.ref 487),(.ref 488),(.ref 489),(.int 981 0),(.int 229 0),(.str t178 982)]⟩),⟨[]⟩⟩
def y491 (w : World) : Obj := ⟨(.type "function"),none,(.func { name := t361, qualname := t361, params := defArgs (top 65), body := .stmts (defBody (top 65)), scope := defScope (top 65), globals := 3, closure := [], defaults := .none, kwdefaults := .none, doc := .none, pyModule := (.str t416 920), annotations := none, code := (.ref 490), closureTuple := .none, builtins := 0 }),⟨[]⟩⟩
def y492 (w : World) : Obj := ⟨(.type "tuple"),none,(.seq ⟨[]⟩ 0),⟨[]⟩⟩
def y493 (w : World) : Obj := ⟨.none,none,(.fields ⟨[]⟩),⟨[]⟩⟩
def y494 (w : World) : Obj := ⟨.none,none,(.func { name := t362, qualname := t362, params := defArgs (top 66), body := .stmts (defBody (top 66)), scope := defScope (top 66), globals := 0, closure := [], defaults := .none, kwdefaults := .none, doc := .none, pyModule := .none, annotations := none, code := .none, closureTuple := .none, builtins := 0 }),⟨[]⟩⟩
def y495 (w : World) : Obj := ⟨(.type "code"),none,(.fields ⟨[(.str t362 984),(.str t362 985),(.str t178 986),(.int 233 0),(.int 2 0),(.int 0 0),(.int 0 0),(.int 3 0),(.ref 492),(.bool true),(.int 370 0),(.ref 493),.none,.none,.none,(.ref 494),(.int 987 0),(.int 233 0),(.str t178 988)]⟩),⟨[]⟩⟩
def y496 (w : World) : Obj := ⟨(.type "function"),none,(.func { name := t362, qualname := t362, params := defArgs (top 66), body := .stmts (defBody (top 66)), scope := defScope (top 66), globals := 3, closure := [], defaults := .none, kwdefaults := .none, doc := .none, pyModule := (.str t416 920), annotations := none, code := (.ref 495), closureTuple := .none, builtins := 0 }),⟨[]⟩⟩
def y497 (w : World) : Obj := ⟨(.type "tuple"),none,(.seq ⟨[]⟩ 0),⟨[]⟩⟩
def y498 (w : World) : Obj := ⟨.none,none,(.fields ⟨[]⟩),⟨[]⟩⟩
def y499 (w : World) : Obj := ⟨(.type "tuple"),none,(.seq ⟨[(.str t397 993),(.str t419 994)]⟩ 0),⟨[]⟩⟩
def y500 (w : World) : Obj := ⟨(.type "tuple"),none,(.seq ⟨[]⟩ 0),⟨[]⟩⟩
def y501 (w : World) : Obj := ⟨.none,none,(.func { name := t363, qualname := t363, params := defArgs (top 67), body := .stmts (defBody (top 67)), scope := defScope (top 67), globals := 0, closure := [], defaults := .none, kwdefaults := .none, doc := .none, pyModule := .none, annotations := none, code := .none, closureTuple := .none, builtins := 0 }),⟨[]⟩⟩
def y502 (w : World) : Obj := ⟨(.type "code"),none,(.fields ⟨[(.str t363 990),(.str t363 991),(.str t178 992),(.int 242 0),(.int 2 0),(.int 0 0),(.int 0 0),(.int 3 0),(.ref 497),(.bool true),(.int 370 0),(.ref 498),.none,(.ref 499),(.ref 500),(.ref 501),(.int 995 0),(.int 242 0),(.str t178 996)]⟩),⟨[]⟩⟩
def y503 (w : World) : Obj := ⟨(.type "function"),none,(.func { name := t363, qualname := t363, params := defArgs (top 67), body := .stmts (defBody (top 67)), scope := defScope (top 67), globals := 3, closure := [], defaults := .none, kwdefaults := .none, doc := .none, pyModule := (.str t416 920), annotations := none, code := (.ref 502), closureTuple := .none, builtins := 0 }),⟨[]⟩⟩
def y504 (w : World) : Obj := ⟨(.type "tuple"),none,(.seq ⟨[]⟩ 0),⟨[]⟩⟩
def y505 (w : World) : Obj := ⟨.none,none,(.fields ⟨[]⟩),⟨[]⟩⟩
def y506 (w : World) : Obj := ⟨(.type "tuple"),none,(.seq ⟨[(.str t328 1003),(.str t407 1004),(.str t329 1005),(.str t422 1006),(.str t423 1007)]⟩ 0),⟨[]⟩⟩
def y507 (w : World) : Obj := ⟨(.type "tuple"),none,(.seq ⟨[]⟩ 0),⟨[]⟩⟩
def y508 (w : World) : Obj := ⟨.none,none,(.func { name := t364, qualname := t364, params := defArgs (top 69), body := .stmts (defBody (top 69)), scope := defScope (top 69), globals := 0, closure := [], defaults := .none, kwdefaults := .none, doc := .none, pyModule := .none, annotations := none, code := .none, closureTuple := .none, builtins := 0 }),⟨[]⟩⟩
def y509 (w : World) : Obj := ⟨(.type "code"),none,(.fields ⟨[(.str t364 1000),(.str t364 1001),(.str t178 1002),(.int 245 0),(.int 2 0),(.int 0 0),(.int 0 0),(.int 3 0),(.ref 504),(.bool true),(.int 370 0),(.ref 505),.none,(.ref 506),(.ref 507),(.ref 508),(.int 1008 0),(.int 245 0),(.str t178 1009)]⟩),⟨[]⟩⟩
def y510 (w : World) : Obj := ⟨(.type "function"),none,(.func { name := t364, qualname := t364, params := defArgs (top 69), body := .stmts (defBody (top 69)), scope := defScope (top 69), globals := 3, closure := [], defaults := .none, kwdefaults := .none, doc := .none, pyModule := (.str t424 998), annotations := none, code := (.ref 509), closureTuple := .none, builtins := 0 }),⟨[]⟩⟩
def y511 (w : World) : Obj := ⟨(.type "tuple"),none,(.seq ⟨[]⟩ 0),⟨[]⟩⟩
def y512 (w : World) : Obj := ⟨.none,none,(.fields ⟨[]⟩),⟨[]⟩⟩
def y513 (w : World) : Obj := ⟨.none,none,(.func { name := t365, qualname := t365, params := defArgs (top 70), body := .stmts (defBody (top 70)), scope := defScope (top 70), globals := 0, closure := [], defaults := .none, kwdefaults := .none, doc := .none, pyModule := .none, annotations := none, code := .none, closureTuple := .none, builtins := 0 }),⟨[]⟩⟩
def y514 (w : World) : Obj := ⟨(.type "code"),none,(.fields ⟨[(.str t365 1011),(.str t365 1012),(.str t178 1013),(.int 250 0),(.int 3 0),(.int 0 0),(.int 0 0),(.int 3 0),(.ref 511),(.bool true),(.int 370 0),(.ref 512),.none,.none,.none,(.ref 513),(.int 1014 0),(.int 250 0),(.str t178 1015)]⟩),⟨[]⟩⟩
def y515 (w : World) : Obj := ⟨(.type "function"),none,(.func { name := t365, qualname := t365, params := defArgs (top 70), body := .stmts (defBody (top 70)), scope := defScope (top 70), globals := 3, closure := [], defaults := .none, kwdefaults := .none, doc := .none, pyModule := (.str t424 998), annotations := none, code := (.ref 514), closureTuple := .none, builtins := 0 }),⟨[]⟩⟩
def y516 (w : World) : Obj := ⟨(.type "tuple"),none,(.seq ⟨[]⟩ 0),⟨[]⟩⟩
def y517 (w : World) : Obj := ⟨.none,none,(.fields ⟨[]⟩),⟨[]⟩⟩
def y518 (w : World) : Obj := ⟨.none,none,(.func { name := t366, qualname := t366, params := defArgs (top 71), body := .stmts (defBody (top 71)), scope := defScope (top 71), globals := 0, closure := [], defaults := .none, kwdefaults := .none, doc := .none, pyModule := .none, annotations := none, code := .none, closureTuple := .none, builtins := 0 }),⟨[]⟩⟩
def y519 (w : World) : Obj := ⟨(.type "code"),none,(.fields ⟨[(.str t366 1017),(.str t366 1018),(.str t178 1019),(.int 256 0),(.int 3 0),(.int 0 0),(.int 0 0),(.int 3 0),(.ref 516),(.bool true),(.int 370 0),(.ref 517),.none,.none,.none,(.ref 518),(.int 1020 0),(.int 256 0),(.str t178 1021)]⟩),⟨[]⟩⟩
def y520 (w : World) : Obj := ⟨(.type "function"),none,(.func { name := t366, qualname := t366, params := defArgs (top 71), body := .stmts (defBody (top 71)), scope := defScope (top 71), globals := 3, closure := [], defaults := .none, kwdefaults := .none, doc := .none, pyModule := (.str t424 998), annotations := none, code := (.ref 519), closureTuple := .none, builtins := 0 }),⟨[]⟩⟩
def y521 (w : World) : Obj := ⟨(.type "tuple"),none,(.seq ⟨[]⟩ 0),⟨[]⟩⟩
def y522 (w : World) : Obj := ⟨.none,none,(.fields ⟨[]⟩),⟨[]⟩⟩
def y523 (w : World) : Obj := ⟨(.type "tuple"),none,(.seq ⟨[(.str t425 1028),(.str t333 1029),(.str t408 1030),(.str t324 1031),(.str t417 1032),(.str t426 1033),(.str t399 1034),(.str t427 1035),(.str t412 1036),(.str t428 1037)]⟩ 0),⟨[]⟩⟩
def y524 (w : World) : Obj := ⟨(.type "tuple"),none,(.seq ⟨[]⟩ 0),⟨[]⟩⟩
def y525 (w : World) : Obj := ⟨.none,none,(.func { name := t367, qualname := t367, params := defArgs (top 73), body := .stmts (defBody (top 73)), scope := defScope (top 73), globals := 0, closure := [], defaults := .none, kwdefaults := .none, doc := .none, pyModule := .none, annotations := none, code := .none, closureTuple := .none, builtins := 0 }),⟨[]⟩⟩
def y526 (w : World) : Obj := ⟨(.type "code"),none,(.fields ⟨[(.str t367 1025),(.str t367 1026),(.str t178 1027),(.int 268 0),(.int 4 0),(.int 0 0),(.int 0 0),(.int 3 0),(.ref 521),(.bool true),(.int 370 0),(.ref 522),.none,(.ref 523),(.ref 524),(.ref 525),(.int 1038 0),(.int 268 0),(.str t178 1039)]⟩),⟨[]⟩⟩
def y527 (w : World) : Obj := ⟨(.type "function"),none,(.func { name := t367, qualname := t367, params := defArgs (top 73), body := .stmts (defBody (top 73)), scope := defScope (top 73), globals := 3, closure := [], defaults := .none, kwdefaults := .none, doc := .none, pyModule := (.str t429 1023), annotations := none, code := (.ref 526), closureTuple := .none, builtins := 0 }),⟨[]⟩⟩
def y528 (w : World) : Obj := ⟨(.type "tuple"),none,(.seq ⟨[]⟩ 0),⟨[]⟩⟩
def y529 (w : World) : Obj := ⟨.none,none,(.fields ⟨[]⟩),⟨[]⟩⟩
def y530 (w : World) : Obj := ⟨(.type "tuple"),none,(.seq ⟨[(.str t397 1044),(.str t329 1045),(.str t401 1046)]⟩ 0),⟨[]⟩⟩
def y531 (w : World) : Obj := ⟨(.type "tuple"),none,(.seq ⟨[(.str t430 1047),(.str t324 1048),(.str t405 1049),(.str t431 1050)]⟩ 0),⟨[]⟩⟩
def y532 (w : World) : Obj := ⟨.none,none,(.func { name := t368, qualname := t368, params := defArgs (top 74), body := .stmts (defBody (top 74)), scope := defScope (top 74), globals := 0, closure := [], defaults := .none, kwdefaults := .none, doc := .none, pyModule := .none, annotations := none, code := .none, closureTuple := .none, builtins := 0 }),⟨[]⟩⟩
def y533 (w : World) : Obj := ⟨(.type "code"),none,(.fields ⟨[(.str t368 1041),(.str t368 1042),(.str t178 1043),(.int 275 0),(.int 2 0),(.int 0 0),(.int 0 0),(.int 3 0),(.ref 528),(.bool true),(.int 370 0),(.ref 529),.none,(.ref 530),(.ref 531),(.ref 532),(.int 1051 0),(.int 275 0),(.str t178 1052)]⟩),⟨[]⟩⟩
def y534 (w : World) : Obj := ⟨(.type "function"),none,(.func { name := t368, qualname := t368, params := defArgs (top 74), body := .stmts (defBody (top 74)), scope := defScope (top 74), globals := 3, closure := [], defaults := .none, kwdefaults := .none, doc := .none, pyModule := (.str t429 1023), annotations := none, code := (.ref 533), closureTuple := .none, builtins := 0 }),⟨[]⟩⟩
def y535 (w : World) : Obj := ⟨(.type "tuple"),none,(.seq ⟨[]⟩ 0),⟨[]⟩⟩
def y536 (w : World) : Obj := ⟨.none,none,(.fields ⟨[]⟩),⟨[]⟩⟩
def y537 (w : World) : Obj := ⟨(.type "tuple"),none,(.seq ⟨[(.str t397 1057),(.str t432 1058),(.str t401 1059),(.str t433 1060)]⟩ 0),⟨[]⟩⟩
def y538 (w : World) : Obj := ⟨(.type "tuple"),none,(.seq ⟨[(.str t432 1061),(.str t430 1062),(.str t324 1063),(.str t405 1064),(.str t431 1065)]⟩ 0),⟨[]⟩⟩
def y539 (w : World) : Obj := ⟨.none,none,(.func { name := t369, qualname := t369, params := defArgs (top 75), body := .stmts (defBody (top 75)), scope := defScope (top 75), globals := 0, closure := [], defaults := .none, kwdefaults := .none, doc := .none, pyModule := .none, annotations := none, code := .none, closureTuple := .none, builtins := 0 }),⟨[]⟩⟩
def y540 (w : World) : Obj := ⟨(.type "code"),none,(.fields ⟨[(.str t369 1054),(.str t369 1055),(.str t178 1056),(.int 283 0),(.int 2 0),(.int 0 0),(.int 0 0),(.int 3 0),(.ref 535),(.bool true),(.int 370 0),(.ref 536),.none,(.ref 537),(.ref 538),(.ref 539),(.int 1066 0),(.int 283 0),(.str t178 1067)]⟩),⟨[]⟩⟩
def y541 (w : World) : Obj := ⟨(.type "function"),none,(.func { name := t369, qualname := t369, params := defArgs (top 75), body := .stmts (defBody (top 75)), scope := defScope (top 75), globals := 3, closure := [], defaults := .none, kwdefaults := .none, doc := .none, pyModule := (.str t429 1023), annotations := none, code := (.ref 540), closureTuple := .none, builtins := 0 }),⟨[]⟩⟩
def y542 (w : World) : Obj := ⟨(.type "tuple"),none,(.seq ⟨[]⟩ 0),⟨[]⟩⟩
def y543 (w : World) : Obj := ⟨.none,none,(.fields ⟨[]⟩),⟨[]⟩⟩
def y544 (w : World) : Obj := ⟨(.type "tuple"),none,(.seq ⟨[(.str t324 1072),(.str t422 1073)]⟩ 0),⟨[]⟩⟩
def y545 (w : World) : Obj := ⟨(.type "tuple"),none,(.seq ⟨[]⟩ 0),⟨[]⟩⟩
def y546 (w : World) : Obj := ⟨.none,none,(.func { name := t370, qualname := t370, params := defArgs (top 76), body := .stmts (defBody (top 76)), scope := defScope (top 76), globals := 0, closure := [], defaults := .none, kwdefaults := .none, doc := .none, pyModule := .none, annotations := none, code := .none, closureTuple := .none, builtins := 0 }),⟨[]⟩⟩
def y547 (w : World) : Obj := ⟨(.type "code"),none,(.fields ⟨[(.str t370 1069),(.str t370 1070),(.str t178 1071),(.int 298 0),(.int 1 0),(.int 0 0),(.int 0 0),(.int 3 0),(.ref 542),(.bool true),(.int 370 0),(.ref 543),.none,(.ref 544),(.ref 545),(.ref 546),(.int 1074 0),(.int 298 0),(.str t178 1075)]⟩),⟨[]⟩⟩
def y548 (w : World) : Obj := ⟨(.type "function"),none,(.func { name := t370, qualname := t370, params := defArgs (top 76), body := .stmts (defBody (top 76)), scope := defScope (top 76), globals := 3, closure := [], defaults := .none, kwdefaults := .none, doc := .none, pyModule := (.str t429 1023), annotations := none, code := (.ref 547), closureTuple := .none, builtins := 0 }),⟨[]⟩⟩
def y549 (w : World) : Obj := ⟨(.type "tuple"),none,(.seq ⟨[]⟩ 0),⟨[]⟩⟩
def y550 (w : World) : Obj := ⟨.none,none,(.fields ⟨[]⟩),⟨[]⟩⟩
def y551 (w : World) : Obj := ⟨.none,none,(.func { name := t371, qualname := t371, params := defArgs (top 78), body := .stmts (defBody (top 78)), scope := defScope (top 78), globals := 0, closure := [], defaults := .none, kwdefaults := .none, doc := .none, pyModule := .none, annotations := none, code := .none, closureTuple := .none, builtins := 0 }),⟨[]⟩⟩
def y552 (w : World) : Obj := ⟨(.type "code"),none,(.fields ⟨[(.str t371 1079),(.str t371 1080),(.str t178 1081),(.int 302 0),(.int 2 0),(.int 0 0),(.int 0 0),(.int 3 0),(.ref 549),(.bool true),(.int 370 0),(.ref 550),.none,.none,.none,(.ref 551),(.int 1082 0),(.int 302 0),(.str t178 1083)]⟩),⟨[]⟩⟩
def y553 (w : World) : Obj := ⟨(.type "function"),none,(.func { name := t371, qualname := t371, params := defArgs (top 78), body := .stmts (defBody (top 78)), scope := defScope (top 78), globals := 3, closure := [], defaults := .none, kwdefaults := .none, doc := .none, pyModule := (.str t434 1077), annotations := none, code := (.ref 552), closureTuple := .none, builtins := 0 }),⟨[]⟩⟩
def y554 (w : World) : Obj := ⟨(.type "tuple"),none,(.seq ⟨[]⟩ 0),⟨[]⟩⟩
def y555 (w : World) : Obj := ⟨.none,none,(.fields ⟨[]⟩),⟨[]⟩⟩
def y556 (w : World) : Obj := ⟨.none,none,(.func { name := t372, qualname := t372, params := defArgs (top 79), body := .stmts (defBody (top 79)), scope := defScope (top 79), globals := 0, closure := [], defaults := .none, kwdefaults := .none, doc := .none, pyModule := .none, annotations := none, code := .none, closureTuple := .none, builtins := 0 }),⟨[]⟩⟩
def y557 (w : World) : Obj := ⟨(.type "code"),none,(.fields ⟨[(.str t372 1085),(.str t372 1086),(.str t178 1087),(.int 304 0),(.int 2 0),(.int 0 0),(.int 0 0),(.int 3 0),(.ref 554),(.bool true),(.int 370 0),(.ref 555),.none,.none,.none,(.ref 556),(.int 1088 0),(.int 304 0),(.str t178 1089)]⟩),⟨[]⟩⟩
def y558 (w : World) : Obj := ⟨(.type "function"),none,(.func { name := t372, qualname := t372, params := defArgs (top 79), body := .stmts (defBody (top 79)), scope := defScope (top 79), globals := 3, closure := [], defaults := .none, kwdefaults := .none, doc := .none, pyModule := (.str t434 1077), annotations := none, code := (.ref 557), closureTuple := .none, builtins := 0 }),⟨[]⟩⟩
def y559 (w : World) : Obj := ⟨(.type "tuple"),none,(.seq ⟨[]⟩ 0),⟨[]⟩⟩
def y560 (w : World) : Obj := ⟨.none,none,(.fields ⟨[]⟩),⟨[]⟩⟩
def y561 (w : World) : Obj := ⟨.none,none,(.func { name := t373, qualname := t373, params := defArgs (top 80), body := .stmts (defBody (top 80)), scope := defScope (top 80), globals := 0, closure := [], defaults := .none, kwdefaults := .none, doc := .none, pyModule := .none, annotations := none, code := .none, closureTuple := .none, builtins := 0 }),⟨[]⟩⟩
def y562 (w : World) : Obj := ⟨(.type "code"),none,(.fields ⟨[(.str t373 1091),(.str t373 1092),(.str t178 1093),(.int 306 0),(.int 2 0),(.int 0 0),(.int 0 0),(.int 3 0),(.ref 559),(.bool true),(.int 370 0),(.ref 560),.none,.none,.none,(.ref 561),(.int 1094 0),(.int 306 0),(.str t178 1095)]⟩),⟨[]⟩⟩
def y563 (w : World) : Obj := ⟨(.type "function"),none,(.func { name := t373, qualname := t373, params := defArgs (top 80), body := .stmts (defBody (top 80)), scope := defScope (top 80), globals := 3, closure := [], defaults := .none, kwdefaults := .none, doc := .none, pyModule := (.str t434 1077), annotations := none, code := (.ref 562), closureTuple := .none, builtins := 0 }),⟨[]⟩⟩
def y564 (w : World) : Obj := ⟨(.type "tuple"),none,(.seq ⟨[]⟩ 0),⟨[]⟩⟩
def y565 (w : World) : Obj := ⟨.none,none,(.fields ⟨[]⟩),⟨[]⟩⟩
def y566 (w : World) : Obj := ⟨.none,none,(.func { name := t374, qualname := t374, params := defArgs (top 81), body := .stmts (defBody (top 81)), scope := defScope (top 81), globals := 0, closure := [], defaults := .none, kwdefaults := .none, doc := .none, pyModule := .none, annotations := none, code := .none, closureTuple := .none, builtins := 0 }),⟨[]⟩⟩
def y567 (w : World) : Obj := ⟨(.type "code"),none,(.fields ⟨[(.str t374 1097),(.str t374 1098),(.str t178 1099),(.int 322 0),(.int 3 0),(.int 0 0),(.int 0 0),(.int 3 0),(.ref 564),(.bool true),(.int 370 0),(.ref 565),.none,.none,.none,(.ref 566),(.int 1100 0),(.int 322 0),(.str t178 1101)]⟩),⟨[]⟩⟩
def y568 (w : World) : Obj := ⟨(.type "function"),none,(.func { name := t374, qualname := t374, params := defArgs (top 81), body := .stmts (defBody (top 81)), scope := defScope (top 81), globals := 3, closure := [], defaults := .none, kwdefaults := .none, doc := .none, pyModule := (.str t434 1077), annotations := none, code := (.ref 567), closureTuple := .none, builtins := 0 }),⟨[]⟩⟩
def y569 (w : World) : Obj := ⟨(.type "tuple"),none,(.seq ⟨[]⟩ 0),⟨[]⟩⟩
def y570 (w : World) : Obj := ⟨.none,none,(.fields ⟨[]⟩),⟨[]⟩⟩
def y571 (w : World) : Obj := ⟨(.type "tuple"),none,(.seq ⟨[(.str t328 1108),(.str t327 1109),(.str t422 1110),(.str t407 1111),(.str t418 1112),(.str t399 1113)]⟩ 0),⟨[]⟩⟩
def y572 (w : World) : Obj := ⟨(.type "tuple"),none,(.seq ⟨[]⟩ 0),⟨[]⟩⟩
def y573 (w : World) : Obj := ⟨.none,none,(.func { name := t375, qualname := t375, params := defArgs (top 83), body := .stmts (defBody (top 83)), scope := defScope (top 83), globals := 0, closure := [], defaults := .none, kwdefaults := .none, doc := .none, pyModule := .none, annotations := none, code := .none, closureTuple := .none, builtins := 0 }),⟨[]⟩⟩
def y574 (w : World) : Obj := ⟨(.type "code"),none,(.fields ⟨[(.str t375 1105),(.str t375 1106),(.str t178 1107),(.int 329 0),(.int 3 0),(.int 0 0),(.int 0 0),(.int 3 0),(.ref 569),(.bool true),(.int 370 0),(.ref 570),.none,(.ref 571),(.ref 572),(.ref 573),(.int 1114 0),(.int 329 0),(.str t178 1115)]⟩),⟨[]⟩⟩
def y575 (w : World) : Obj := ⟨(.type "function"),none,(.func { name := t375, qualname := t375, params := defArgs (top 83), body := .stmts (defBody (top 83)), scope := defScope (top 83), globals := 3, closure := [], defaults := .none, kwdefaults := .none, doc := .none, pyModule := (.str t435 1103), annotations := none, code := (.ref 574), closureTuple := .none, builtins := 0 }),⟨[]⟩⟩
def y576 (w : World) : Obj := ⟨(.type "tuple"),none,(.seq ⟨[]⟩ 0),⟨[]⟩⟩
def y577 (w : World) : Obj := ⟨.none,none,(.fields ⟨[]⟩),⟨[]⟩⟩
def y578 (w : World) : Obj := ⟨.none,none,(.func { name := t376, qualname := t376, params := defArgs (top 84), body := .stmts (defBody (top 84)), scope := defScope (top 84), globals := 0, closure := [], defaults := .none, kwdefaults := .none, doc := .none, pyModule := .none, annotations := none, code := .none, closureTuple := .none, builtins := 0 }),⟨[]⟩⟩
def y579 (w : World) : Obj := ⟨(.type "code"),none,(.fields ⟨[(.str t376 1117),(.str t376 1118),(.str t178 1119),(.int 334 0),(.int 2 0),(.int 0 0),(.int 0 0),(.int 3 0),(.ref 576),(.bool true),(.int 370 0),(.ref 577),.none,.none,.none,(.ref 578),(.int 1120 0),(.int 334 0),(.str t178 1121)]⟩),⟨[]⟩⟩
def y580 (w : World) : Obj := ⟨(.type "function"),none,(.func { name := t376, qualname := t376, params := defArgs (top 84), body := .stmts (defBody (top 84)), scope := defScope (top 84), globals := 3, closure := [], defaults := .none, kwdefaults := .none, doc := .none, pyModule := (.str t435 1103), annotations := none, code := (.ref 579), closureTuple := .none, builtins := 0 }),⟨[]⟩⟩
def y581 (w : World) : Obj := ⟨(.type "tuple"),none,(.seq ⟨[]⟩ 0),⟨[]⟩⟩
def y582 (w : World) : Obj := ⟨.none,none,(.fields ⟨[]⟩),⟨[]⟩⟩
def y583 (w : World) : Obj := ⟨.none,none,(.func { name := t377, qualname := t377, params := defArgs (top 85), body := .stmts (defBody (top 85)), scope := defScope (top 85), globals := 0, closure := [], defaults := .none, kwdefaults := .none, doc := .none, pyModule := .none, annotations := none, code := .none, closureTuple := .none, builtins := 0 }),⟨[]⟩⟩
def y584 (w : World) : Obj := ⟨(.type "code"),none,(.fields ⟨[(.str t377 1123),(.str t377 1124),(.str t178 1125),(.int 339 0),(.int 2 0),(.int 0 0),(.int 0 0),(.int 3 0),(.ref 581),(.bool true),(.int 370 0),(.ref 582),.none,.none,.none,(.ref 583),(.int 1126 0),(.int 339 0),(.str t178 1127)]⟩),⟨[]⟩⟩
def y585 (w : World) : Obj := ⟨(.type "function"),none,(.func { name := t377, qualname := t377, params := defArgs (top 85), body := .stmts (defBody (top 85)), scope := defScope (top 85), globals := 3, closure := [], defaults := .none, kwdefaults := .none, doc := .none, pyModule := (.str t435 1103), annotations := none, code := (.ref 584), closureTuple := .none, builtins := 0 }),⟨[]⟩⟩
def y586 (w : World) : Obj := ⟨(.type "tuple"),none,(.seq ⟨[]⟩ 0),⟨[]⟩⟩
def y587 (w : World) : Obj := ⟨.none,none,(.fields ⟨[]⟩),⟨[]⟩⟩
def y588 (w : World) : Obj := ⟨.none,none,(.func { name := t378, qualname := t378, params := defArgs (top 86), body := .stmts (defBody (top 86)), scope := defScope (top 86), globals := 0, closure := [], defaults := .none, kwdefaults := .none, doc := .none, pyModule := .none, annotations := none, code := .none, closureTuple := .none, builtins := 0 }),⟨[]⟩⟩
def y589 (w : World) : Obj := ⟨(.type "code"),none,(.fields ⟨[(.str t378 1129),(.str t378 1130),(.str t178 1131),(.int 342 0),(.int 3 0),(.int 0 0),(.int 0 0),(.int 3 0),(.ref 586),(.bool true),(.int 370 0),(.ref 587),.none,.none,.none,(.ref 588),(.int 1132 0),(.int 342 0),(.str t178 1133)]⟩),⟨[]⟩⟩
def y590 (w : World) : Obj := ⟨(.type "function"),none,(.func { name := t378, qualname := t378, params := defArgs (top 86), body := .stmts (defBody (top 86)), scope := defScope (top 86), globals := 3, closure := [], defaults := .none, kwdefaults := .none, doc := .none, pyModule := (.str t435 1103), annotations := none, code := (.ref 589), closureTuple := .none, builtins := 0 }),⟨[]⟩⟩
def y591 (w : World) : Obj := ⟨(.type "tuple"),none,(.seq ⟨[]⟩ 0),⟨[]⟩⟩
def y592 (w : World) : Obj := ⟨.none,none,(.fields ⟨[]⟩),⟨[]⟩⟩
def y593 (w : World) : Obj := ⟨.none,none,(.func { name := t379, qualname := t379, params := defArgs (top 87), body := .stmts (defBody (top 87)), scope := defScope (top 87), globals := 0, closure := [], defaults := .none, kwdefaults := .none, doc := .none, pyModule := .none, annotations := none, code := .none, closureTuple := .none, builtins := 0 }),⟨[]⟩⟩
def y594 (w : World) : Obj := ⟨(.type "code"),none,(.fields ⟨[(.str t379 1135),(.str t379 1136),(.str t178 1137),(.int 350 0),(.int 2 0),(.int 0 0),(.int 0 0),(.int 3 0),(.ref 591),(.bool true),(.int 370 0),(.ref 592),.none,.none,.none,(.ref 593),(.int 1138 0),(.int 350 0),(.str t178 1139)]⟩),⟨[]⟩⟩
def y595 (w : World) : Obj := ⟨(.type "function"),none,(.func { name := t379, qualname := t379, params := defArgs (top 87), body := .stmts (defBody (top 87)), scope := defScope (top 87), globals := 3, closure := [], defaults := .none, kwdefaults := .none, doc := .none, pyModule := (.str t435 1103), annotations := none, code := (.ref 594), closureTuple := .none, builtins := 0 }),⟨[]⟩⟩
def y596 (w : World) : Obj := ⟨(.type "tuple"),none,(.seq ⟨[]⟩ 0),⟨[]⟩⟩
def y597 (w : World) : Obj := ⟨.none,none,(.fields ⟨[]⟩),⟨[]⟩⟩
def y598 (w : World) : Obj := ⟨(.type "tuple"),none,(.seq ⟨[(.str t328 1146),(.str t331 1147),(.str t332 1148),(.str t418 1149),(.str t242 1150),(.str t334 1151),(.str t330 1152)]⟩ 0),⟨[]⟩⟩
def y599 (w : World) : Obj := ⟨(.type "tuple"),none,(.seq ⟨[(.str t331 1153)]⟩ 0),⟨[]⟩⟩
def y600 (w : World) : Obj := ⟨.none,none,(.func { name := t380, qualname := t380, params := defArgs (top 89), body := .stmts (defBody (top 89)), scope := defScope (top 89), globals := 0, closure := [], defaults := .none, kwdefaults := .none, doc := .none, pyModule := .none, annotations := none, code := .none, closureTuple := .none, builtins := 0 }),⟨[]⟩⟩
def y601 (w : World) : Obj := ⟨(.type "code"),none,(.fields ⟨[(.str t380 1143),(.str t380 1144),(.str t178 1145),(.int 353 0),(.int 2 0),(.int 0 0),(.int 0 0),(.int 3 0),(.ref 596),(.bool true),(.int 370 0),(.ref 597),.none,(.ref 598),(.ref 599),(.ref 600),(.int 1154 0),(.int 353 0),(.str t178 1155)]⟩),⟨[]⟩⟩
def y602 (w : World) : Obj := ⟨(.type "function"),none,(.func { name := t380, qualname := t380, params := defArgs (top 89), body := .stmts (defBody (top 89)), scope := defScope (top 89), globals := 3, closure := [], defaults := .none, kwdefaults := .none, doc := .none, pyModule := (.str t436 1141), annotations := none, code := (.ref 601), closureTuple := .none, builtins := 0 }),⟨[]⟩⟩
def y603 (w : World) : Obj := ⟨(.type "tuple"),none,(.seq ⟨[]⟩ 0),⟨[]⟩⟩
def y604 (w : World) : Obj := ⟨.none,none,(.fields ⟨[]⟩),⟨[]⟩⟩
def y605 (w : World) : Obj := ⟨.none,none,(.func { name := t381, qualname := t381, params := defArgs (top 90), body := .stmts (defBody (top 90)), scope := defScope (top 90), globals := 0, closure := [], defaults := .none, kwdefaults := .none, doc := .none, pyModule := .none, annotations := none, code := .none, closureTuple := .none, builtins := 0 }),⟨[]⟩⟩
def y606 (w : World) : Obj := ⟨(.type "code"),none,(.fields ⟨[(.str t381 1157),(.str t381 1158),(.str t178 1159),(.int 359 0),(.int 3 0),(.int 0 0),(.int 0 0),(.int 3 0),(.ref 603),(.bool true),(.int 370 0),(.ref 604),.none,.none,.none,(.ref 605),(.int 1160 0),(.int 359 0),(.str t178 1161)]⟩),⟨[]⟩⟩
def y607 (w : World) : Obj := ⟨(.type "function"),none,(.func { name := t381, qualname := t381, params := defArgs (top 90), body := .stmts (defBody (top 90)), scope := defScope (top 90), globals := 3, closure := [], defaults := .none, kwdefaults := .none, doc := .none, pyModule := (.str t436 1141), annotations := none, code := (.ref 606), closureTuple := .none, builtins := 0 }),⟨[]⟩⟩
def y608 (w : World) : Obj := ⟨(.type "tuple"),none,(.seq ⟨[]⟩ 0),⟨[]⟩⟩
def y609 (w : World) : Obj := ⟨.none,none,(.fields ⟨[]⟩),⟨[]⟩⟩
def y610 (w : World) : Obj := ⟨.none,none,(.func { name := t382, qualname := t382, params := defArgs (top 91), body := .stmts (defBody (top 91)), scope := defScope (top 91), globals := 0, closure := [], defaults := .none, kwdefaults := .none, doc := .none, pyModule := .none, annotations := none, code := .none, closureTuple := .none, builtins := 0 }),⟨[]⟩⟩
def y611 (w : World) : Obj := ⟨(.type "code"),none,(.fields ⟨[(.str t382 1163),(.str t382 1164),(.str t178 1165),(.int 367 0),(.int 3 0),(.int 0 0),(.int 0 0),(.int 3 0),(.ref 608),(.bool true),(.int 370 0),(.ref 609),.none,.none,.none,(.ref 610),(.int 1166 0),(.int 367 0),(.str t178 1167)]⟩),⟨[]⟩⟩
def y612 (w : World) : Obj := ⟨(.type "function"),none,(.func { name := t382, qualname := t382, params := defArgs (top 91), body := .stmts (defBody (top 91)), scope := defScope (top 91), globals := 3, closure := [], defaults := .none, kwdefaults := .none, doc := .none, pyModule := (.str t436 1141), annotations := none, code := (.ref 611), closureTuple := .none, builtins := 0 }),⟨[]⟩⟩
def y613 (w : World) : Obj := ⟨(.type "tuple"),none,(.seq ⟨[]⟩ 0),⟨[]⟩⟩
def y614 (w : World) : Obj := ⟨.none,none,(.fields ⟨[]⟩),⟨[]⟩⟩
def y615 (w : World) : Obj := ⟨.none,none,(.func { name := t383, qualname := t383, params := defArgs (top 92), body := .stmts (defBody (top 92)), scope := defScope (top 92), globals := 0, closure := [], defaults := .none, kwdefaults := .none, doc := .none, pyModule := .none, annotations := none, code := .none, closureTuple := .none, builtins := 0 }),⟨[]⟩⟩
def y616 (w : World) : Obj := ⟨(.type "code"),none,(.fields ⟨[(.str t383 1169),(.str t383 1170),(.str t178 1171),(.int 374 0),(.int 1 0),(.int 0 0),(.int 0 0),(.int 3 0),(.ref 613),(.bool true),(.int 370 0),(.ref 614),.none,.none,.none,(.ref 615),(.int 1172 0),(.int 374 0),(.str t178 1173)]⟩),⟨[]⟩⟩
def y617 (w : World) : Obj := ⟨(.type "function"),none,(.func { name := t383, qualname := t383, params := defArgs (top 92), body := .stmts (defBody (top 92)), scope := defScope (top 92), globals := 3, closure := [], defaults := .none, kwdefaults := .none, doc := .none, pyModule := (.str t436 1141), annotations := none, code := (.ref 616), closureTuple := .none, builtins := 0 }),⟨[]⟩⟩
def y618 (w : World) : Obj := ⟨(.type "tuple"),none,(.seq ⟨[]⟩ 0),⟨[]⟩⟩
def y619 (w : World) : Obj := ⟨.none,none,(.fields ⟨[]⟩),⟨[]⟩⟩
def y620 (w : World) : Obj := ⟨(.type "tuple"),none,(.seq ⟨[(.str t328 1178),(.str t332 1179),(.str t331 1180),(.str t327 1181),(.str t437 1182),(.str t438 1183),(.str t439 1184)]⟩ 0),⟨[]⟩⟩
def y621 (w : World) : Obj := ⟨(.type "tuple"),none,(.seq ⟨[]⟩ 0),⟨[]⟩⟩
def y622 (w : World) : Obj := ⟨.none,none,(.func { name := t384, qualname := t384, params := defArgs (top 93), body := .stmts (defBody (top 93)), scope := defScope (top 93), globals := 0, closure := [], defaults := .none, kwdefaults := .none, doc := .none, pyModule := .none, annotations := none, code := .none, closureTuple := .none, builtins := 0 }),⟨[]⟩⟩
def y623 (w : World) : Obj := ⟨(.type "code"),none,(.fields ⟨[(.str t384 1175),(.str t384 1176),(.str t178 1177),(.int 381 0),(.int 1 0),(.int 0 0),(.int 0 0),(.int 3 0),(.ref 618),(.bool true),(.int 370 0),(.ref 619),.none,(.ref 620),(.ref 621),(.ref 622),(.int 1185 0),(.int 381 0),(.str t178 1186)]⟩),⟨[]⟩⟩
def y624 (w : World) : Obj := ⟨(.type "function"),none,(.func { name := t384, qualname := t384, params := defArgs (top 93), body := .stmts (defBody (top 93)), scope := defScope (top 93), globals := 3, closure := [], defaults := .none, kwdefaults := .none, doc := .none, pyModule := (.str t436 1141), annotations := none, code := (.ref 623), closureTuple := .none, builtins := 0 }),⟨[]⟩⟩
def y625 (w : World) : Obj := ⟨(.type "tuple"),none,(.seq ⟨[]⟩ 0),⟨[]⟩⟩
def y626 (w : World) : Obj := ⟨.none,none,(.fields ⟨[]⟩),⟨[]⟩⟩
def y627 (w : World) : Obj := ⟨(.type "tuple"),none,(.seq ⟨[(.str t328 1191),(.str t437 1192),(.str t440 1193),(.str t407 1194),(.str t329 1195),(.str t441 1196),(.str t442 1197),(.str t432 1198),(.str t334 1199)]⟩ 0),⟨[]⟩⟩
def y628 (w : World) : Obj := ⟨(.type "tuple"),none,(.seq ⟨[]⟩ 0),⟨[]⟩⟩
def y629 (w : World) : Obj := ⟨.none,none,(.func { name := t385, qualname := t385, params := defArgs (top 94), body := .stmts (defBody (top 94)), scope := defScope (top 94), globals := 0, closure := [], defaults := .none, kwdefaults := .none, doc := .none, pyModule := .none, annotations := none, code := .none, closureTuple := .none, builtins := 0 }),⟨[]⟩⟩
def y630 (w : World) : Obj := ⟨(.type "code"),none,(.fields ⟨[(.str t385 1188),(.str t385 1189),(.str t178 1190),(.int 392 0),(.int 2 0),(.int 0 0),(.int 0 0),(.int 3 0),(.ref 625),(.bool true),(.int 370 0),(.ref 626),.none,(.ref 627),(.ref 628),(.ref 629),(.int 1200 0),(.int 392 0),(.str t178 1201)]⟩),⟨[]⟩⟩
def y631 (w : World) : Obj := ⟨(.type "function"),none,(.func { name := t385, qualname := t385, params := defArgs (top 94), body := .stmts (defBody (top 94)), scope := defScope (top 94), globals := 3, closure := [], defaults := .none, kwdefaults := .none, doc := .none, pyModule := (.str t436 1141), annotations := none, code := (.ref 630), closureTuple := .none, builtins := 0 }),⟨[]⟩⟩
def y632 (w : World) : Obj := ⟨(.type "tuple"),none,(.seq ⟨[]⟩ 0),⟨[]⟩⟩
def y633 (w : World) : Obj := ⟨.none,none,(.fields ⟨[]⟩),⟨[]⟩⟩
def y634 (w : World) : Obj := ⟨.none,none,(.func { name := t386, qualname := t386, params := defArgs (top 95), body := .stmts (defBody (top 95)), scope := defScope (top 95), globals := 0, closure := [], defaults := .none, kwdefaults := .none, doc := .none, pyModule := .none, annotations := none, code := .none, closureTuple := .none, builtins := 0 }),⟨[]⟩⟩
def y635 (w : World) : Obj := ⟨(.type "code"),none,(.fields ⟨[(.str t386 1203),(.str t386 1204),(.str t178 1205),(.int 403 0),(.int 1 0),(.int 0 0),(.int 0 0),(.int 3 0),(.ref 632),(.bool true),(.int 370 0),(.ref 633),.none,.none,.none,(.ref 634),(.int 1206 0),(.int 403 0),(.str t178 1207)]⟩),⟨[]⟩⟩
def y636 (w : World) : Obj := ⟨(.type "function"),none,(.func { name := t386, qualname := t386, params := defArgs (top 95), body := .stmts (defBody (top 95)), scope := defScope (top 95), globals := 3, closure := [], defaults := .none, kwdefaults := .none, doc := .none, pyModule := (.str t436 1141), annotations := none, code := (.ref 635), closureTuple := .none, builtins := 0 }),⟨[]⟩⟩
def y637 (w : World) : Obj := ⟨(.type "tuple"),none,(.seq ⟨[]⟩ 0),⟨[]⟩⟩
def y638 (w : World) : Obj := ⟨.none,none,(.fields ⟨[]⟩),⟨[]⟩⟩
def y639 (w : World) : Obj := ⟨.none,none,(.func { name := t387, qualname := t387, params := defArgs (top 96), body := .stmts (defBody (top 96)), scope := defScope (top 96), globals := 0, closure := [], defaults := .none, kwdefaults := .none, doc := .none, pyModule := .none, annotations := none, code := .none, closureTuple := .none, builtins := 0 }),⟨[]⟩⟩
def y640 (w : World) : Obj := ⟨(.type "code"),none,(.fields ⟨[(.str t387 1209),(.str t387 1210),(.str t178 1211),(.int 413 0),(.int 3 0),(.int 0 0),(.int 0 0),(.int 3 0),(.ref 637),(.bool true),(.int 370 0),(.ref 638),.none,.none,.none,(.ref 639),(.int 1212 0),(.int 413 0),(.str t178 1213)]⟩),⟨[]⟩⟩
def y641 (w : World) : Obj := ⟨(.type "function"),none,(.func { name := t387, qualname := t387, params := defArgs (top 96), body := .stmts (defBody (top 96)), scope := defScope (top 96), globals := 3, closure := [], defaults := .none, kwdefaults := .none, doc := .none, pyModule := (.str t436 1141), annotations := none, code := (.ref 640), closureTuple := .none, builtins := 0 }),⟨[]⟩⟩
def y642 (w : World) : Obj := ⟨(.type "tuple"),none,(.seq ⟨[]⟩ 0),⟨[]⟩⟩
def y643 (w : World) : Obj := ⟨.none,none,(.fields ⟨[]⟩),⟨[]⟩⟩
def y644 (w : World) : Obj := ⟨(.type "tuple"),none,(.seq ⟨[(.str t328 1218),(.str t407 1219),(.str t441 1220),(.str t442 1221),(.str t329 1222),(.str t426 1223),(.str t443 1224),(.str t432 1225),(.str t444 1226),(.str t422 1227)]⟩ 0),⟨[]⟩⟩
def y645 (w : World) : Obj := ⟨(.type "tuple"),none,(.seq ⟨[]⟩ 0),⟨[]⟩⟩
def y646 (w : World) : Obj := ⟨.none,none,(.func { name := t388, qualname := t388, params := defArgs (top 97), body := .stmts (defBody (top 97)), scope := defScope (top 97), globals := 0, closure := [], defaults := .none, kwdefaults := .none, doc := .none, pyModule := .none, annotations := none, code := .none, closureTuple := .none, builtins := 0 }),⟨[]⟩⟩
def y647 (w : World) : Obj := ⟨(.type "code"),none,(.fields ⟨[(.str t388 1215),(.str t388 1216),(.str t178 1217),(.int 431 0),(.int 5 0),(.int 0 0),(.int 0 0),(.int 3 0),(.ref 642),(.bool true),(.int 370 0),(.ref 643),.none,(.ref 644),(.ref 645),(.ref 646),(.int 1228 0),(.int 431 0),(.str t178 1229)]⟩),⟨[]⟩⟩
def y648 (w : World) : Obj := ⟨(.type "function"),none,(.func { name := t388, qualname := t388, params := defArgs (top 97), body := .stmts (defBody (top 97)), scope := defScope (top 97), globals := 3, closure := [], defaults := .none, kwdefaults := .none, doc := .none, pyModule := (.str t436 1141), annotations := none, code := (.ref 647), closureTuple := .none, builtins := 0 }),⟨[]⟩⟩
def y649 (w : World) : Obj := ⟨(.type "tuple"),none,(.seq ⟨[]⟩ 0),⟨[]⟩⟩
def y650 (w : World) : Obj := ⟨.none,none,(.fields ⟨[]⟩),⟨[]⟩⟩
def y651 (w : World) : Obj := ⟨(.type "tuple"),none,(.seq ⟨[(.str t328 1234),(.str t329 1235),(.str t405 1236),(.str t437 1237),(.str t441 1238),(.str t442 1239),(.str t407 1240),(.str t426 1241)]⟩ 0),⟨[]⟩⟩
def y652 (w : World) : Obj := ⟨(.type "tuple"),none,(.seq ⟨[]⟩ 0),⟨[]⟩⟩
def y653 (w : World) : Obj := ⟨.none,none,(.func { name := t389, qualname := t389, params := defArgs (top 98), body := .stmts (defBody (top 98)), scope := defScope (top 98), globals := 0, closure := [], defaults := .none, kwdefaults := .none, doc := .none, pyModule := .none, annotations := none, code := .none, closureTuple := .none, builtins := 0 }),⟨[]⟩⟩
def y654 (w : World) : Obj := ⟨(.type "code"),none,(.fields ⟨[(.str t389 1231),(.str t389 1232),(.str t178 1233),(.int 439 0),(.int 2 0),(.int 0 0),(.int 0 0),(.int 3 0),(.ref 649),(.bool true),(.int 370 0),(.ref 650),.none,(.ref 651),(.ref 652),(.ref 653),(.int 1242 0),(.int 439 0),(.str t178 1243)]⟩),⟨[]⟩⟩
def y655 (w : World) : Obj := ⟨(.type "function"),none,(.func { name := t389, qualname := t389, params := defArgs (top 98), body := .stmts (defBody (top 98)), scope := defScope (top 98), globals := 3, closure := [], defaults := .none, kwdefaults := .none, doc := .none, pyModule := (.str t436 1141), annotations := none, code := (.ref 654), closureTuple := .none, builtins := 0 }),⟨[]⟩⟩
def y656 (w : World) : Obj := ⟨(.type "tuple"),none,(.seq ⟨[]⟩ 0),⟨[]⟩⟩
def y657 (w : World) : Obj := ⟨.none,none,(.fields ⟨[]⟩),⟨[]⟩⟩
def y658 (w : World) : Obj := ⟨(.type "tuple"),none,(.seq ⟨[(.str t328 1250),(.str t445 1251),(.str t332 1252),(.str t242 1253)]⟩ 0),⟨[]⟩⟩
def y659 (w : World) : Obj := ⟨(.type "tuple"),none,(.seq ⟨[]⟩ 0),⟨[]⟩⟩
def y660 (w : World) : Obj := ⟨.none,none,(.func { name := t390, qualname := t390, params := defArgs (top 100), body := .stmts (defBody (top 100)), scope := defScope (top 100), globals := 0, closure := [], defaults := .none, kwdefaults := .none, doc := .none, pyModule := .none, annotations := none, code := .none, closureTuple := .none, builtins := 0 }),⟨[]⟩⟩
def y661 (w : World) : Obj := ⟨(.type "code"),none,(.fields ⟨[(.str t390 1247),(.str t390 1248),(.str t178 1249),(.int 448 0),(.int 1 0),(.int 0 0),(.int 0 0),(.int 3 0),(.ref 656),(.bool true),(.int 370 0),(.ref 657),.none,(.ref 658),(.ref 659),(.ref 660),(.int 1254 0),(.int 448 0),(.str t178 1255)]⟩),⟨[]⟩⟩
def y662 (w : World) : Obj := ⟨(.type "function"),none,(.func { name := t390, qualname := t390, params := defArgs (top 100), body := .stmts (defBody (top 100)), scope := defScope (top 100), globals := 3, closure := [], defaults := .none, kwdefaults := .none, doc := .none, pyModule := (.str t446 1245), annotations := none, code := (.ref 661), closureTuple := .none, builtins := 0 }),⟨[]⟩⟩
def y663 (w : World) : Obj := ⟨(.type "tuple"),none,(.seq ⟨[]⟩ 0),⟨[]⟩⟩
def y664 (w : World) : Obj := ⟨.none,none,(.fields ⟨[]⟩),⟨[]⟩⟩
def y665 (w : World) : Obj := ⟨(.type "tuple"),none,(.seq ⟨[(.str t328 1260),(.str t447 1261),(.str t395 1262),(.str t441 1263),(.str t397 1264)]⟩ 0),⟨[]⟩⟩
def y666 (w : World) : Obj := ⟨(.type "tuple"),none,(.seq ⟨[]⟩ 0),⟨[]⟩⟩
def y667 (w : World) : Obj := ⟨.none,none,(.func { name := t391, qualname := t391, params := defArgs (top 101), body := .stmts (defBody (top 101)), scope := defScope (top 101), globals := 0, closure := [], defaults := .none, kwdefaults := .none, doc := .none, pyModule := .none, annotations := none, code := .none, closureTuple := .none, builtins := 0 }),⟨[]⟩⟩
def y668 (w : World) : Obj := ⟨(.type "code"),none,(.fields ⟨[(.str t391 1257),(.str t391 1258),(.str t178 1259),(.int 456 0),(.int 3 0),(.int 0 0),(.int 0 0),(.int 3 0),(.ref 663),(.bool true),(.int 370 0),(.ref 664),.none,(.ref 665),(.ref 666),(.ref 667),(.int 1265 0),(.int 456 0),(.str t178 1266)]⟩),⟨[]⟩⟩
def y669 (w : World) : Obj := ⟨(.type "function"),none,(.func { name := t391, qualname := t391, params := defArgs (top 101), body := .stmts (defBody (top 101)), scope := defScope (top 101), globals := 3, closure := [], defaults := .none, kwdefaults := .none, doc := .none, pyModule := (.str t446 1245), annotations := none, code := (.ref 668), closureTuple := .none, builtins := 0 }),⟨[]⟩⟩
def y670 (w : World) : Obj := ⟨(.type "tuple"),none,(.seq ⟨[]⟩ 0),⟨[]⟩⟩
def y671 (w : World) : Obj := ⟨.none,none,(.fields ⟨[]⟩),⟨[]⟩⟩
def y672 (w : World) : Obj := ⟨(.type "tuple"),none,(.seq ⟨[(.str t328 1271),(.str t395 1272),(.str t447 1273),(.str t397 1274)]⟩ 0),⟨[]⟩⟩
def y673 (w : World) : Obj := ⟨(.type "tuple"),none,(.seq ⟨[]⟩ 0),⟨[]⟩⟩
def y674 (w : World) : Obj := ⟨.none,none,(.func { name := t392, qualname := t392, params := defArgs (top 102), body := .stmts (defBody (top 102)), scope := defScope (top 102), globals := 0, closure := [], defaults := .none, kwdefaults := .none, doc := .none, pyModule := .none, annotations := none, code := .none, closureTuple := .none, builtins := 0 }),⟨[]⟩⟩
def y675 (w : World) : Obj := ⟨(.type "code"),none,(.fields ⟨[(.str t392 1268),(.str t392 1269),(.str t178 1270),(.int 460 0),(.int 2 0),(.int 0 0),(.int 0 0),(.int 3 0),(.ref 670),(.bool true),(.int 370 0),(.ref 671),.none,(.ref 672),(.ref 673),(.ref 674),(.int 1275 0),(.int 460 0),(.str t178 1276)]⟩),⟨[]⟩⟩
def y676 (w : World) : Obj := ⟨(.type "function"),none,(.func { name := t392, qualname := t392, params := defArgs (top 102), body := .stmts (defBody (top 102)), scope := defScope (top 102), globals := 3, closure := [], defaults := .none, kwdefaults := .none, doc := .none, pyModule := (.str t446 1245), annotations := none, code := (.ref 675), closureTuple := .none, builtins := 0 }),⟨[]⟩⟩
def y677 (w : World) : Obj := ⟨(.type "tuple"),none,(.seq ⟨[]⟩ 0),⟨[]⟩⟩
def y678 (w : World) : Obj := ⟨.none,none,(.fields ⟨[]⟩),⟨[]⟩⟩
def y679 (w : World) : Obj := ⟨(.type "tuple"),none,(.seq ⟨[(.str t399 1283),(.str t400 1284),(.str t395 1285)]⟩ 0),⟨[]⟩⟩
def y680 (w : World) : Obj := ⟨(.type "tuple"),none,(.seq ⟨[]⟩ 0),⟨[]⟩⟩
def y681 (w : World) : Obj := ⟨.none,none,(.func { name := t393, qualname := t393, params := defArgs (top 104), body := .stmts (defBody (top 104)), scope := defScope (top 104), globals := 0, closure := [], defaults := .none, kwdefaults := .none, doc := .none, pyModule := .none, annotations := none, code := .none, closureTuple := .none, builtins := 0 }),⟨[]⟩⟩
def y682 (w : World) : Obj := ⟨(.type "code"),none,(.fields ⟨[(.str t393 1280),(.str t393 1281),(.str t178 1282),(.int 467 0),(.int 3 0),(.int 0 0),(.int 0 0),(.int 3 0),(.ref 677),(.bool true),(.int 370 0),(.ref 678),.none,(.ref 679),(.ref 680),(.ref 681),(.int 1286 0),(.int 467 0),(.str t178 1287)]⟩),⟨[]⟩⟩
def y683 (w : World) : Obj := ⟨(.type "function"),none,(.func { name := t393, qualname := t393, params := defArgs (top 104), body := .stmts (defBody (top 104)), scope := defScope (top 104), globals := 3, closure := [], defaults := .none, kwdefaults := .none, doc := .none, pyModule := (.str t394 1278), annotations := none, code := (.ref 682), closureTuple := .none, builtins := 0 }),⟨[]⟩⟩
def tree3 (w : World) : PySem.W.BT := (.node (y0 w) (.node (y1 w) (.node (y3_3 w) (.node (y7 w) (.node (y15 w) (.node (y31 w) (.node (y63 w) (.node (y127 w) (.node (y255 w) (.node (y511 w) .nil .nil) .nil) (.node (y383 w) (.node (y639 w) .nil .nil) .nil)) (.node (y191 w) (.node (y319 w) (.node (y575 w) .nil .nil) .nil) (.node (y447 w) .nil .nil))) (.node (y95 w) (.node (y159 w) (.node (y287 w) (.node (y543 w) .nil .nil) .nil) (.node (y415 w) (.node (y671 w) .nil .nil) .nil)) (.node (y223 w) (.node (y351 w) (.node (y607 w) .nil .nil) .nil) (.node (y479 w) .nil .nil)))) (.node (y47 w) (.node (y79 w) (.node (y143 w) (.node (y271 w) (.node (y527 w) .nil .nil) .nil) (.node (y399 w) (.node (y655 w) .nil .nil) .nil)) (.node (y207 w) (.node (y335 w) (.node (y591 w) .nil .nil) .nil) (.node (y463 w) .nil .nil))) (.node (y111 w) (.node (y175 w) (.node (y303 w) (.node (y559 w) .nil .nil) .nil) (.node (y431 w) .nil .nil)) (.node (y239 w) (.node (y367 w) (.node (y623 w) .nil .nil) .nil) (.node (y495 w) .nil .nil))))) (.node (y23 w) (.node (y39 w) (.node (y71 w) (.node (y135 w) (.node (y263 w) (.node (y519 w) .nil .nil) .nil) (.node (y391 w) (.node (y647 w) .nil .nil) .nil)) (.node (y199 w) (.node (y327 w) (.node (y583 w) .nil .nil) .nil) (.node (y455 w) .nil .nil))) (.node (y103 w) (.node (y167 w) (.node (y295 w) (.node (y551 w) .nil .nil) .nil) (.node (y423 w) (.node (y679 w) .nil .nil) .nil)) (.node (y231 w) (.node (y359 w) (.node (y615 w) .nil .nil) .nil) (.node (y487 w) .nil .nil)))) (.node (y55 w) (.node (y87 w) (.node (y151 w) (.node (y279 w) (.node (y535 w) .nil .nil) .nil) (.node (y407 w) (.node (y663 w) .nil .nil) .nil)) (.node (y215 w) (.node (y343 w) (.node (y599 w) .nil .nil) .nil) (.node (y471 w) .nil .nil))) (.node (y119 w) (.node (y183 w) (.node (y311 w) (.node (y567 w) .nil .nil) .nil) (.node (y439 w) .nil .nil)) (.node (y247 w) (.node (y375 w) (.node (y631 w) .nil .nil) .nil) (.node (y503 w) .nil .nil)))))) (.node (y11 w) (.node (y19 w) (.node (y35 w) (.node (y67 w) (.node (y131 w) (.node (y259 w) (.node (y515 w) .nil .nil) .nil) (.node (y387 w) (.node (y643 w) .nil .nil) .nil)) (.node (y195 w) (.node (y323 w) (.node (y579 w) .nil .nil) .nil) (.node (y451 w) .nil .nil))) (.node (y99 w) (.node (y163 w) (.node (y291 w) (.node (y547 w) .nil .nil) .nil) (.node (y419 w) (.node (y675 w) .nil .nil) .nil)) (.node (y227 w) (.node (y355 w) (.node (y611 w) .nil .nil) .nil) (.node (y483 w) .nil .nil)))) (.node (y51 w) (.node (y83 w) (.node (y147 w) (.node (y275 w) (.node (y531 w) .nil .nil) .nil) (.node (y403 w) (.node (y659 w) .nil .nil) .nil)) (.node (y211 w) (.node (y339 w) (.node (y595 w) .nil .nil) .nil) (.node (y467 w) .nil .nil))) (.node (y115 w) (.node (y179 w) (.node (y307 w) (.node (y563 w) .nil .nil) .nil) (.node (y435 w) .nil .nil)) (.node (y243 w) (.node (y371 w) (.node (y627 w) .nil .nil) .nil) (.node (y499 w) .nil .nil))))) (.node (y27 w) (.node (y43 w) (.node (y75 w) (.node (y139 w) (.node (y267 w) (.node (y523 w) .nil .nil) .nil) (.node (y395 w) (.node (y651 w) .nil .nil) .nil)) (.node (y203 w) (.node (y331 w) (.node (y587 w) .nil .nil) .nil) (.node (y459 w) .nil .nil))) (.node (y107 w) (.node (y171 w) (.node (y299 w) (.node (y555 w) .nil .nil) .nil) (.node (y427 w) (.node (y683 w) .nil .nil) .nil)) (.node (y235 w) (.node (y363 w) (.node (y619 w) .nil .nil) .nil) (.node (y491 w) .nil .nil)))) (.node (y59_1 w) (.node (y91 w) (.node (y155 w) (.node (y283 w) (.node (y539 w) .nil .nil) .nil) (.node (y411 w) (.node (y667 w) .nil .nil) .nil)) (.node (y219 w) (.node (y347 w) (.node (y603 w) .nil .nil) .nil) (.node (y475 w) .nil .nil))) (.node (y123 w) (.node (y187 w) (.node (y315 w) (.node (y571 w) .nil .nil) .nil) (.node (y443 w) .nil .nil)) (.node (y251 w) (.node (y379 w) (.node (y635 w) .nil .nil) .nil) (.node (y507 w) .nil .nil))))))) (.node (y5 w) (.node (y9 w) (.node (y17 w) (.node (y33 w) (.node (y65 w) (.node (y129 w) (.node (y257 w) (.node (y513 w) .nil .nil) .nil) (.node (y385 w) (.node (y641 w) .nil .nil) .nil)) (.node (y193 w) (.node (y321 w) (.node (y577 w) .nil .nil) .nil) (.node (y449 w) .nil .nil))) (.node (y97 w) (.node (y161 w) (.node (y289 w) (.node (y545 w) .nil .nil) .nil) (.node (y417 w) (.node (y673 w) .nil .nil) .nil)) (.node (y225 w) (.node (y353 w) (.node (y609 w) .nil .nil) .nil) (.node (y481 w) .nil .nil)))) (.node (y49 w) (.node (y81 w) (.node (y145 w) (.node (y273 w) (.node (y529 w) .nil .nil) .nil) (.node (y401 w) (.node (y657 w) .nil .nil) .nil)) (.node (y209 w) (.node (y337 w) (.node (y593 w) .nil .nil) .nil) (.node (y465 w) .nil .nil))) (.node (y113 w) (.node (y177 w) (.node (y305 w) (.node (y561 w) .nil .nil) .nil) (.node (y433 w) .nil .nil)) (.node (y241 w) (.node (y369 w) (.node (y625 w) .nil .nil) .nil) (.node (y497 w) .nil .nil))))) (.node (y25 w) (.node (y41 w) (.node (y73 w) (.node (y137 w) (.node (y265 w) (.node (y521 w) .nil .nil) .nil) (.node (y393 w) (.node (y649 w) .nil .nil) .nil)) (.node (y201 w) (.node (y329 w) (.node (y585 w) .nil .nil) .nil) (.node (y457 w) .nil .nil))) (.node (y105 w) (.node (y169 w) (.node (y297 w) (.node (y553 w) .nil .nil) .nil) (.node (y425 w) (.node (y681 w) .nil .nil) .nil)) (.node (y233 w) (.node (y361 w) (.node (y617 w) .nil .nil) .nil) (.node (y489 w) .nil .nil)))) (.node (y57 w) (.node (y89 w) (.node (y153 w) (.node (y281 w) (.node (y537 w) .nil .nil) .nil) (.node (y409 w) (.node (y665 w) .nil .nil) .nil)) (.node (y217 w) (.node (y345 w) (.node (y601 w) .nil .nil) .nil) (.node (y473 w) .nil .nil))) (.node (y121 w) (.node (y185 w) (.node (y313 w) (.node (y569 w) .nil .nil) .nil) (.node (y441 w) .nil .nil)) (.node (y249 w) (.node (y377 w) (.node (y633 w) .nil .nil) .nil) (.node (y505 w) .nil .nil)))))) (.node (y13 w) (.node (y21 w) (.node (y37 w) (.node (y69 w) (.node (y133 w) (.node (y261 w) (.node (y517 w) .nil .nil) .nil) (.node (y389 w) (.node (y645 w) .nil .nil) .nil)) (.node (y197 w) (.node (y325 w) (.node (y581 w) .nil .nil) .nil) (.node (y453 w) .nil .nil))) (.node (y101 w) (.node (y165 w) (.node (y293 w) (.node (y549 w) .nil .nil) .nil) (.node (y421 w) (.node (y677 w) .nil .nil) .nil)) (.node (y229 w) (.node (y357 w) (.node (y613 w) .nil .nil) .nil) (.node (y485 w) .nil .nil)))) (.node (y53 w) (.node (y85 w) (.node (y149 w) (.node (y277 w) (.node (y533 w) .nil .nil) .nil) (.node (y405 w) (.node (y661 w) .nil .nil) .nil)) (.node (y213 w) (.node (y341 w) (.node (y597 w) .nil .nil) .nil) (.node (y469 w) .nil .nil))) (.node (y117 w) (.node (y181 w) (.node (y309 w) (.node (y565 w) .nil .nil) .nil) (.node (y437 w) .nil .nil)) (.node (y245 w) (.node (y373 w) (.node (y629 w) .nil .nil) .nil) (.node (y501 w) .nil .nil))))) (.node (y29 w) (.node (y45 w) (.node (y77 w) (.node (y141 w) (.node (y269 w) (.node (y525 w) .nil .nil) .nil) (.node (y397 w) (.node (y653 w) .nil .nil) .nil)) (.node (y205 w) (.node (y333 w) (.node (y589 w) .nil .nil) .nil) (.node (y461 w) .nil .nil))) (.node (y109 w) (.node (y173 w) (.node (y301 w) (.node (y557 w) .nil .nil) .nil) (.node (y429 w) .nil .nil)) (.node (y237 w) (.node (y365 w) (.node (y621 w) .nil .nil) .nil) (.node (y493 w) .nil .nil)))) (.node (y61 w) (.node (y93 w) (.node (y157 w) (.node (y285 w) (.node (y541 w) .nil .nil) .nil) (.node (y413 w) (.node (y669 w) .nil .nil) .nil)) (.node (y221 w) (.node (y349 w) (.node (y605 w) .nil .nil) .nil) (.node (y477 w) .nil .nil))) (.node (y125 w) (.node (y189 w) (.node (y317 w) (.node (y573 w) .nil .nil) .nil) (.node (y445 w) .nil .nil)) (.node (y253 w) (.node (y381 w) (.node (y637 w) .nil .nil) .nil) (.node (y509 w) .nil .nil)))))))) (.node (y2 w) (.node (y4 w) (.node (y8 w) (.node (y16 w) (.node (y32 w) (.node (y64 w) (.node (y128 w) (.node (y256 w) (.node (y512 w) .nil .nil) .nil) (.node (y384 w) (.node (y640 w) .nil .nil) .nil)) (.node (y192 w) (.node (y320 w) (.node (y576 w) .nil .nil) .nil) (.node (y448 w) .nil .nil))) (.node (y96 w) (.node (y160 w) (.node (y288 w) (.node (y544 w) .nil .nil) .nil) (.node (y416 w) (.node (y672 w) .nil .nil) .nil)) (.node (y224 w) (.node (y352 w) (.node (y608 w) .nil .nil) .nil) (.node (y480 w) .nil .nil)))) (.node (y48 w) (.node (y80 w) (.node (y144 w) (.node (y272 w) (.node (y528 w) .nil .nil) .nil) (.node (y400 w) (.node (y656 w) .nil .nil) .nil)) (.node (y208 w) (.node (y336 w) (.node (y592 w) .nil .nil) .nil) (.node (y464 w) .nil .nil))) (.node (y112 w) (.node (y176 w) (.node (y304 w) (.node (y560 w) .nil .nil) .nil) (.node (y432 w) .nil .nil)) (.node (y240 w) (.node (y368 w) (.node (y624 w) .nil .nil) .nil) (.node (y496 w) .nil .nil))))) (.node (y24 w) (.node (y40_2 w) (.node (y72 w) (.node (y136 w) (.node (y264 w) (.node (y520 w) .nil .nil) .nil) (.node (y392 w) (.node (y648 w) .nil .nil) .nil)) (.node (y200 w) (.node (y328 w) (.node (y584 w) .nil .nil) .nil) (.node (y456 w) .nil .nil))) (.node (y104 w) (.node (y168 w) (.node (y296 w) (.node (y552 w) .nil .nil) .nil) (.node (y424 w) (.node (y680 w) .nil .nil) .nil)) (.node (y232 w) (.node (y360 w) (.node (y616 w) .nil .nil) .nil) (.node (y488 w) .nil .nil)))) (.node (y56 w) (.node (y88 w) (.node (y152 w) (.node (y280 w) (.node (y536 w) .nil .nil) .nil) (.node (y408 w) (.node (y664 w) .nil .nil) .nil)) (.node (y216 w) (.node (y344 w) (.node (y600 w) .nil .nil) .nil) (.node (y472 w) .nil .nil))) (.node (y120 w) (.node (y184 w) (.node (y312 w) (.node (y568 w) .nil .nil) .nil) (.node (y440 w) .nil .nil)) (.node (y248 w) (.node (y376 w) (.node (y632 w) .nil .nil) .nil) (.node (y504 w) .nil .nil)))))) (.node (y12 w) (.node (y20 w) (.node (y36 w) (.node (y68 w) (.node (y132 w) (.node (y260 w) (.node (y516 w) .nil .nil) .nil) (.node (y388 w) (.node (y644 w) .nil .nil) .nil)) (.node (y196 w) (.node (y324 w) (.node (y580 w) .nil .nil) .nil) (.node (y452 w) .nil .nil))) (.node (y100 w) (.node (y164 w) (.node (y292 w) (.node (y548 w) .nil .nil) .nil) (.node (y420 w) (.node (y676 w) .nil .nil) .nil)) (.node (y228 w) (.node (y356 w) (.node (y612 w) .nil .nil) .nil) (.node (y484 w) .nil .nil)))) (.node (y52 w) (.node (y84 w) (.node (y148 w) (.node (y276 w) (.node (y532 w) .nil .nil) .nil) (.node (y404 w) (.node (y660 w) .nil .nil) .nil)) (.node (y212 w) (.node (y340 w) (.node (y596 w) .nil .nil) .nil) (.node (y468 w) .nil .nil))) (.node (y116 w) (.node (y180 w) (.node (y308 w) (.node (y564 w) .nil .nil) .nil) (.node (y436 w) .nil .nil)) (.node (y244 w) (.node (y372 w) (.node (y628 w) .nil .nil) .nil) (.node (y500 w) .nil .nil))))) (.node (y28 w) (.node (y44 w) (.node (y76 w) (.node (y140 w) (.node (y268 w) (.node (y524 w) .nil .nil) .nil) (.node (y396 w) (.node (y652 w) .nil .nil) .nil)) (.node (y204 w) (.node (y332 w) (.node (y588 w) .nil .nil) .nil) (.node (y460 w) .nil .nil))) (.node (y108 w) (.node (y172 w) (.node (y300 w) (.node (y556 w) .nil .nil) .nil) (.node (y428 w) .nil .nil)) (.node (y236 w) (.node (y364 w) (.node (y620 w) .nil .nil) .nil) (.node (y492 w) .nil .nil)))) (.node (y60 w) (.node (y92 w) (.node (y156 w) (.node (y284 w) (.node (y540 w) .nil .nil) .nil) (.node (y412 w) (.node (y668 w) .nil .nil) .nil)) (.node (y220 w) (.node (y348 w) (.node (y604 w) .nil .nil) .nil) (.node (y476 w) .nil .nil))) (.node (y124 w) (.node (y188 w) (.node (y316 w) (.node (y572 w) .nil .nil) .nil) (.node (y444 w) .nil .nil)) (.node (y252 w) (.node (y380 w) (.node (y636 w) .nil .nil) .nil) (.node (y508 w) .nil .nil))))))) (.node (y6 w) (.node (y10 w) (.node (y18 w) (.node (y34 w) (.node (y66 w) (.node (y130 w) (.node (y258 w) (.node (y514 w) .nil .nil) .nil) (.node (y386 w) (.node (y642 w) .nil .nil) .nil)) (.node (y194 w) (.node (y322 w) (.node (y578 w) .nil .nil) .nil) (.node (y450 w) .nil .nil))) (.node (y98 w) (.node (y162 w) (.node (y290 w) (.node (y546 w) .nil .nil) .nil) (.node (y418 w) (.node (y674 w) .nil .nil) .nil)) (.node (y226 w) (.node (y354 w) (.node (y610 w) .nil .nil) .nil) (.node (y482 w) .nil .nil)))) (.node (y50 w) (.node (y82 w) (.node (y146 w) (.node (y274 w) (.node (y530 w) .nil .nil) .nil) (.node (y402 w) (.node (y658 w) .nil .nil) .nil)) (.node (y210 w) (.node (y338 w) (.node (y594 w) .nil .nil) .nil) (.node (y466 w) .nil .nil))) (.node (y114 w) (.node (y178 w) (.node (y306 w) (.node (y562 w) .nil .nil) .nil) (.node (y434 w) .nil .nil)) (.node (y242 w) (.node (y370 w) (.node (y626 w) .nil .nil) .nil) (.node (y498 w) .nil .nil))))) (.node (y26 w) (.node (y42 w) (.node (y74 w) (.node (y138 w) (.node (y266 w) (.node (y522 w) .nil .nil) .nil) (.node (y394 w) (.node (y650 w) .nil .nil) .nil)) (.node (y202 w) (.node (y330 w) (.node (y586 w) .nil .nil) .nil) (.node (y458 w) .nil .nil))) (.node (y106 w) (.node (y170 w) (.node (y298 w) (.node (y554 w) .nil .nil) .nil) (.node (y426 w) (.node (y682 w) .nil .nil) .nil)) (.node (y234 w) (.node (y362 w) (.node (y618 w) .nil .nil) .nil) (.node (y490 w) .nil .nil)))) (.node (y58 w) (.node (y90 w) (.node (y154 w) (.node (y282 w) (.node (y538 w) .nil .nil) .nil) (.node (y410 w) (.node (y666 w) .nil .nil) .nil)) (.node (y218 w) (.node (y346 w) (.node (y602 w) .nil .nil) .nil) (.node (y474 w) .nil .nil))) (.node (y122 w) (.node (y186 w) (.node (y314 w) (.node (y570 w) .nil .nil) .nil) (.node (y442 w) .nil .nil)) (.node (y250 w) (.node (y378 w) (.node (y634 w) .nil .nil) .nil) (.node (y506 w) .nil .nil)))))) (.node (y14 w) (.node (y22 w) (.node (y38 w) (.node (y70 w) (.node (y134 w) (.node (y262 w) (.node (y518 w) .nil .nil) .nil) (.node (y390 w) (.node (y646 w) .nil .nil) .nil)) (.node (y198 w) (.node (y326 w) (.node (y582 w) .nil .nil) .nil) (.node (y454 w) .nil .nil))) (.node (y102 w) (.node (y166 w) (.node (y294 w) (.node (y550 w) .nil .nil) .nil) (.node (y422 w) (.node (y678 w) .nil .nil) .nil)) (.node (y230 w) (.node (y358 w) (.node (y614 w) .nil .nil) .nil) (.node (y486 w) .nil .nil)))) (.node (y54 w) (.node (y86 w) (.node (y150 w) (.node (y278 w) (.node (y534 w) .nil .nil) .nil) (.node (y406 w) (.node (y662 w) .nil .nil) .nil)) (.node (y214 w) (.node (y342 w) (.node (y598 w) .nil .nil) .nil) (.node (y470 w) .nil .nil))) (.node (y118 w) (.node (y182 w) (.node (y310 w) (.node (y566 w) .nil .nil) .nil) (.node (y438 w) .nil .nil)) (.node (y246 w) (.node (y374 w) (.node (y630 w) .nil .nil) .nil) (.node (y502 w) .nil .nil))))) (.node (y30 w) (.node (y46 w) (.node (y78 w) (.node (y142 w) (.node (y270 w) (.node (y526 w) .nil .nil) .nil) (.node (y398 w) (.node (y654 w) .nil .nil) .nil)) (.node (y206 w) (.node (y334 w) (.node (y590 w) .nil .nil) .nil) (.node (y462 w) .nil .nil))) (.node (y110 w) (.node (y174 w) (.node (y302 w) (.node (y558 w) .nil .nil) .nil) (.node (y430 w) .nil .nil)) (.node (y238 w) (.node (y366 w) (.node (y622 w) .nil .nil) .nil) (.node (y494 w) .nil .nil)))) (.node (y62 w) (.node (y94 w) (.node (y158 w) (.node (y286 w) (.node (y542 w) .nil .nil) .nil) (.node (y414 w) (.node (y670 w) .nil .nil) .nil)) (.node (y222 w) (.node (y350 w) (.node (y606 w) .nil .nil) .nil) (.node (y478 w) .nil .nil))) (.node (y126 w) (.node (y190 w) (.node (y318 w) (.node (y574 w) .nil .nil) .nil) (.node (y446 w) .nil .nil)) (.node (y254 w) (.node (y382 w) (.node (y638 w) .nil .nil) .nil) (.node (y510 w) .nil .nil)))))))))
def st3 (w : World) : PySem.W.SharedT := ⟨tree3 w, 684, life0, #[], ⟨0,0,0,0⟩, 1289, (start (opening R.prog)).1.os⟩
def y3_4 (w : World) : Obj := ⟨(.type "dict"),none,(.dict ⟨[⟨hs w t0,(.str t0 165),(.str t511 1755)⟩,⟨hs w t1,(.str t1 166),.none⟩,⟨hs w t2,(.str t2 167),.none⟩,⟨hs w t3,(.str t3 168),(.builtin "__main__.__loader__#opaque")⟩,⟨hs w t4,(.str t4 169),.none⟩,⟨hs w t173,(.str t173 170),(.ref 6)⟩,⟨hs w t174,(.str t174 171),(.ref 4)⟩,⟨hs w t175,(.str t175 173),(.str t178 172)⟩,⟨hs w t176,(.str t176 174),.none⟩,⟨hs w t177,(.str t177 369),(.builtin "math.gcd")⟩,⟨hs w t284,(.str t284 404),(.ref 59)⟩,⟨hs w t285,(.str t285 420),(.ref 72)⟩,⟨hs w t286,(.str t286 436),(.ref 84)⟩,⟨hs w t287,(.str t287 452),(.ref 96)⟩,⟨hs w t288,(.str t288 468),(.ref 108)⟩,⟨hs w t289,(.str t289 484),(.ref 120)⟩,⟨hs w t290,(.str t290 500),(.ref 132)⟩,⟨hs w t291,(.str t291 516),(.ref 144)⟩,⟨hs w t292,(.str t292 532),(.ref 156)⟩,⟨hs w t298,(.str t298 548),(.ref 168)⟩,⟨hs w t299,(.str t299 564),(.ref 180)⟩,⟨hs w t300,(.str t300 580),(.ref 192)⟩,⟨hs w t301,(.str t301 596),(.ref 204)⟩,⟨hs w t302,(.str t302 612),(.ref 216)⟩,⟨hs w t303,(.str t303 628),(.ref 228)⟩,⟨hs w t304,(.str t304 644),(.ref 240)⟩,⟨hs w t305,(.str t305 653),(.ref 249)⟩,⟨hs w t306,(.str t306 660),(.ref 256)⟩,⟨hs w t307,(.str t307 669),(.ref 263)⟩,⟨hs w t308,(.str t308 677),(.ref 270)⟩,⟨hs w t309,(.str t309 685),(.ref 277)⟩,⟨hs w t310,(.str t310 693),(.ref 284)⟩,⟨hs w t311,(.str t311 704),(.ref 291)⟩,⟨hs w t312,(.str t312 715),(.ref 298)⟩,⟨hs w t313,(.str t313 722),(.ref 305)⟩,⟨hs w t314,(.str t314 730),(.ref 312)⟩,⟨hs w t315,(.str t315 738),(.ref 319)⟩,⟨hs w t316,(.str t316 750),(.ref 326)⟩,⟨hs w t317,(.str t317 756),(.ref 331)⟩,⟨hs w t335,(.str t335 762),(.ref 336)⟩,⟨hs w t336,(.str t336 770),(.ref 343)⟩,⟨hs w t337,(.str t337 774),(.int 400 773)⟩,⟨hs w t338,(.str t338 781),(.ref 350)⟩,⟨hs w t339,(.str t339 789),(.ref 357)⟩,⟨hs w t340,(.str t340 797),(.ref 362)⟩,⟨hs w t341,(.str t341 803),(.ref 367)⟩,⟨hs w t342,(.str t342 811),(.ref 374)⟩,⟨hs w t343,(.str t343 818),(.ref 381)⟩,⟨hs w t344,(.str t344 836),(.ref 388)⟩,⟨hs w t345,(.str t345 842),(.ref 393)⟩,⟨hs w t346,(.str t346 853),(.ref 400)⟩,⟨hs w t347,(.str t347 859),(.ref 405)⟩,⟨hs w t348,(.str t348 865),(.ref 410)⟩,⟨hs w t349,(.str t349 874),(.ref 417)⟩,⟨hs w t350,(.str t350 880),(.ref 422)⟩,⟨hs w t351,(.str t351 886),(.ref 427)⟩,⟨hs w t352,(.str t352 892),(.ref 432)⟩,⟨hs w t353,(.str t353 902),(.ref 439)⟩,⟨hs w t354,(.str t354 908),(.ref 444)⟩,⟨hs w t355,(.str t355 919),(.ref 451)⟩,⟨hs w t356,(.str t356 927),(.ref 456)⟩,⟨hs w t357,(.str t357 938),(.ref 463)⟩,⟨hs w t358,(.str t358 949),(.ref 470)⟩,⟨hs w t359,(.str t359 961),(.ref 477)⟩,⟨hs w t360,(.str t360 972),(.ref 484)⟩,⟨hs w t361,(.str t361 983),(.ref 491)⟩,⟨hs w t362,(.str t362 989),(.ref 496)⟩,⟨hs w t363,(.str t363 997),(.ref 503)⟩,⟨hs w t364,(.str t364 1010),(.ref 510)⟩,⟨hs w t365,(.str t365 1016),(.ref 515)⟩,⟨hs w t366,(.str t366 1022),(.ref 520)⟩,⟨hs w t367,(.str t367 1040),(.ref 527)⟩,⟨hs w t368,(.str t368 1053),(.ref 534)⟩,⟨hs w t369,(.str t369 1068),(.ref 541)⟩,⟨hs w t370,(.str t370 1076),(.ref 548)⟩,⟨hs w t371,(.str t371 1084),(.ref 553)⟩,⟨hs w t372,(.str t372 1090),(.ref 558)⟩,⟨hs w t373,(.str t373 1096),(.ref 563)⟩,⟨hs w t374,(.str t374 1102),(.ref 568)⟩,⟨hs w t375,(.str t375 1116),(.ref 575)⟩,⟨hs w t376,(.str t376 1122),(.ref 580)⟩,⟨hs w t377,(.str t377 1128),(.ref 585)⟩,⟨hs w t378,(.str t378 1134),(.ref 590)⟩,⟨hs w t379,(.str t379 1140),(.ref 595)⟩,⟨hs w t380,(.str t380 1156),(.ref 602)⟩,⟨hs w t381,(.str t381 1162),(.ref 607)⟩,⟨hs w t382,(.str t382 1168),(.ref 612)⟩,⟨hs w t383,(.str t383 1174),(.ref 617)⟩,⟨hs w t384,(.str t384 1187),(.ref 624)⟩,⟨hs w t385,(.str t385 1202),(.ref 631)⟩,⟨hs w t386,(.str t386 1208),(.ref 636)⟩,⟨hs w t387,(.str t387 1214),(.ref 641)⟩,⟨hs w t388,(.str t388 1230),(.ref 648)⟩,⟨hs w t389,(.str t389 1244),(.ref 655)⟩,⟨hs w t390,(.str t390 1256),(.ref 662)⟩,⟨hs w t391,(.str t391 1267),(.ref 669)⟩,⟨hs w t392,(.str t392 1277),(.ref 676)⟩,⟨hs w t393,(.str t393 1288),(.ref 999)⟩,⟨hs w t448,(.str t448 1289),(.ref 683)⟩,⟨hs w t449,(.str t449 1296),(.ref 689)⟩,⟨hs w t450,(.str t450 1307),(.ref 696)⟩,⟨hs w t451,(.str t451 1308),(.ref 696)⟩,⟨hs w t452,(.str t452 1317),(.ref 704)⟩,⟨hs w t453,(.str t453 1327),(.ref 712)⟩,⟨hs w t454,(.str t454 1335),(.ref 717)⟩,⟨hs w t455,(.str t455 1345),(.ref 725)⟩,⟨hs w t456,(.str t456 1353),(.ref 730)⟩,⟨hs w t457,(.str t457 1361),(.ref 737)⟩,⟨hs w t458,(.str t458 1367),(.ref 742)⟩,⟨hs w t459,(.str t459 1376),(.ref 749)⟩,⟨hs w t460,(.str t460 1382),(.ref 754)⟩,⟨hs w t461,(.str t461 1388),(.ref 759)⟩,⟨hs w t462,(.str t462 1407),(.ref 766)⟩,⟨hs w t463,(.str t463 1419),(.ref 773)⟩,⟨hs w t464,(.str t464 1425),(.ref 778)⟩,⟨hs w t465,(.str t465 1439),(.ref 785)⟩,⟨hs w t466,(.str t466 1447),(.ref 792)⟩,⟨hs w t467,(.str t467 1453),(.ref 793)⟩,⟨hs w t468,(.str t468 1456),(.ref 794)⟩,⟨hs w t469,(.str t469 1459),(.ref 795)⟩,⟨hs w t470,(.str t470 1466),(.ref 802)⟩,⟨hs w t471,(.str t471 1473),(.ref 809)⟩,⟨hs w t472,(.str t472 1480),(.ref 816)⟩,⟨hs w t473,(.str t473 1487),(.ref 823)⟩,⟨hs w t474,(.str t474 1494),(.ref 830)⟩,⟨hs w t475,(.str t475 1500),(.ref 835)⟩,⟨hs w t476,(.str t476 1509),(.ref 842)⟩,⟨hs w t477,(.str t477 1513),(.str t512 1512)⟩,⟨hs w t478,(.str t478 1515),(.str t513 1514)⟩,⟨hs w t479,(.str t479 1517),(.str t514 1516)⟩,⟨hs w t480,(.str t480 1523),(.ref 847)⟩,⟨hs w t481,(.str t481 1538),(.ref 854)⟩,⟨hs w t482,(.str t482 1544),(.ref 859)⟩,⟨hs w t483,(.str t483 1548),(.str t515 1547)⟩,⟨hs w t484,(.str t484 1550),(.int 30 1549)⟩,⟨hs w t485,(.str t485 1552),(.int 60 1551)⟩,⟨hs w t486,(.str t486 1561),(.ref 866)⟩,⟨hs w t487,(.str t487 1567),(.ref 871)⟩,⟨hs w t488,(.str t488 1574),(.ref 878)⟩,⟨hs w t489,(.str t489 1580),(.ref 883)⟩,⟨hs w t490,(.str t490 1587),(.ref 890)⟩,⟨hs w t491,(.str t491 1593),(.ref 895)⟩,⟨hs w t492,(.str t492 1603),(.ref 902)⟩,⟨hs w t493,(.str t493 1612),(.ref 909)⟩,⟨hs w t494,(.str t494 1623),(.ref 916)⟩,⟨hs w t495,(.str t495 1637),(.ref 923)⟩,⟨hs w t496,(.str t496 1645),(.ref 930)⟩,⟨hs w t497,(.str t497 1653),(.ref 937)⟩,⟨hs w t498,(.str t498 1661),(.ref 944)⟩,⟨hs w t499,(.str t499 1669),(.ref 951)⟩,⟨hs w t500,(.str t500 1680),(.ref 958)⟩,⟨hs w t501,(.str t501 1688),(.ref 965)⟩,⟨hs w t502,(.str t502 1692),(.ref 966)⟩,⟨hs w t503,(.str t503 1698),(.ref 971)⟩,⟨hs w t504,(.str t504 1711),(.ref 978)⟩,⟨hs w t505,(.str t505 1719),(.ref 985)⟩,⟨hs w t506,(.str t506 1735),(.ref 992)⟩,⟨hs w t507,(.str t507 1745),(.ref 999)⟩,⟨hs w t508,(.str t508 1754),(.ref 1006)⟩,⟨hs w t509,(.str t509 1770),(.ref 1013)⟩,⟨hs w t510,(.str t510 1781),(.ref 1020)⟩]⟩ 161),⟨[]⟩⟩
def y40_3 (w : World) : Obj := ⟨.none,none,(.fields ⟨[(.int 3 0),(.int 0 0),(.ref 48),(.int 7 0),(.int 0 0),(.ref 68),(.int 9 0),(.int 0 0),(.ref 80),(.int 11 0),(.int 0 0),(.ref 92),(.int 13 0),(.int 0 0),(.ref 104),(.int 15 0),(.int 0 0),(.ref 116),(.int 17 0),(.int 0 0),(.ref 128),(.int 19 0),(.int 0 0),(.ref 140),(.int 21 0),(.int 0 0),(.ref 152),(.int 23 0),(.int 0 0),(.ref 164),(.int 25 0),(.int 0 0),(.ref 176),(.int 27 0),(.int 0 0),(.ref 188),(.int 29 0),(.int 0 0),(.ref 200),(.int 31 0),(.int 0 0),(.ref 212),(.int 33 0),(.int 0 0),(.ref 224),(.int 35 0),(.int 0 0),(.ref 236),(.int 38 0),(.int 0 0),(.ref 248),(.int 40 0),(.int 0 0),(.ref 255),(.int 42 0),(.int 0 0),(.ref 262),(.int 44 0),(.int 0 0),(.ref 269),(.int 46 0),(.int 0 0),(.ref 276),(.int 48 0),(.int 0 0),(.ref 283),(.int 51 0),(.int 0 0),(.ref 290),(.int 55 0),(.int 0 0),(.ref 297),(.int 64 0),(.int 0 0),(.ref 304),(.int 67 0),(.int 0 0),(.ref 311),(.int 70 0),(.int 0 0),(.ref 318),(.int 72 0),(.int 0 0),(.ref 325),(.int 82 0),(.int 0 0),(.ref 330),(.int 95 0),(.int 0 0),(.ref 335),(.int 97 0),(.int 0 0),(.ref 342),(.int 101 0),(.int 0 0),(.ref 349),(.int 104 0),(.int 0 0),(.ref 356),(.int 108 0),(.int 0 0),(.ref 361),(.int 110 0),(.int 0 0),(.ref 366),(.int 112 0),(.int 0 0),(.ref 373),(.int 114 0),(.int 0 0),(.ref 380),(.int 117 0),(.int 0 0),(.ref 387),(.int 129 0),(.int 0 0),(.ref 392),(.int 144 0),(.int 0 0),(.ref 399),(.int 149 0),(.int 0 0),(.ref 404),(.int 151 0),(.int 0 0),(.ref 409),(.int 158 0),(.int 0 0),(.ref 416),(.int 160 0),(.int 0 0),(.ref 421),(.int 169 0),(.int 0 0),(.ref 426),(.int 177 0),(.int 0 0),(.ref 431),(.int 180 0),(.int 0 0),(.ref 438),(.int 185 0),(.int 0 0),(.ref 443),(.int 200 0),(.int 0 0),(.ref 450),(.int 206 0),(.int 0 0),(.ref 455),(.int 208 0),(.int 0 0),(.ref 462),(.int 213 0),(.int 0 0),(.ref 469),(.int 218 0),(.int 0 0),(.ref 476),(.int 226 0),(.int 0 0),(.ref 483),(.int 229 0),(.int 0 0),(.ref 490),(.int 233 0),(.int 0 0),(.ref 495),(.int 242 0),(.int 0 0),(.ref 502),(.int 245 0),(.int 0 0),(.ref 509),(.int 250 0),(.int 0 0),(.ref 514),(.int 256 0),(.int 0 0),(.ref 519),(.int 268 0),(.int 0 0),(.ref 526),(.int 275 0),(.int 0 0),(.ref 533),(.int 283 0),(.int 0 0),(.ref 540),(.int 298 0),(.int 0 0),(.ref 547),(.int 302 0),(.int 0 0),(.ref 552),(.int 304 0),(.int 0 0),(.ref 557),(.int 306 0),(.int 0 0),(.ref 562),(.int 322 0),(.int 0 0),(.ref 567),(.int 329 0),(.int 0 0),(.ref 574),(.int 334 0),(.int 0 0),(.ref 579),(.int 339 0),(.int 0 0),(.ref 584),(.int 342 0),(.int 0 0),(.ref 589),(.int 350 0),(.int 0 0),(.ref 594),(.int 353 0),(.int 0 0),(.ref 601),(.int 359 0),(.int 0 0),(.ref 606),(.int 367 0),(.int 0 0),(.ref 611),(.int 374 0),(.int 0 0),(.ref 616),(.int 381 0),(.int 0 0),(.ref 623),(.int 392 0),(.int 0 0),(.ref 630),(.int 403 0),(.int 0 0),(.ref 635),(.int 413 0),(.int 0 0),(.ref 640),(.int 431 0),(.int 0 0),(.ref 647),(.int 439 0),(.int 0 0),(.ref 654),(.int 448 0),(.int 0 0),(.ref 661),(.int 456 0),(.int 0 0),(.ref 668),(.int 460 0),(.int 0 0),(.ref 675),(.int 467 0),(.int 0 0),(.ref 682),(.int 474 0),(.int 0 0),(.ref 688),(.int 483 0),(.int 0 0),(.ref 695),(.int 488 0),(.int 0 0),(.ref 703),(.int 492 0),(.int 0 0),(.ref 711),(.int 496 0),(.int 0 0),(.ref 716),(.int 502 0),(.int 0 0),(.ref 724),(.int 509 0),(.int 0 0),(.ref 729),(.int 511 0),(.int 0 0),(.ref 736),(.int 515 0),(.int 0 0),(.ref 741),(.int 518 0),(.int 0 0),(.ref 748),(.int 520 0),(.int 0 0),(.ref 753),(.int 522 0),(.int 0 0),(.ref 758),(.int 528 0),(.int 0 0),(.ref 765),(.int 537 0),(.int 0 0),(.ref 772),(.int 545 0),(.int 0 0),(.ref 777),(.int 554 0),(.int 0 0),(.ref 784),(.int 566 0),(.int 0 0),(.ref 791),(.int 573 0),(.int 0 0),(.ref 801),(.int 579 0),(.int 0 0),(.ref 808),(.int 589 0),(.int 0 0),(.ref 815),(.int 592 0),(.int 0 0),(.ref 822),(.int 596 0),(.int 0 0),(.ref 829),(.int 598 0),(.int 0 0),(.ref 834),(.int 607 0),(.int 0 0),(.ref 841),(.int 613 0),(.int 0 0),(.ref 846),(.int 615 0),(.int 0 0),(.ref 853),(.int 621 0),(.int 0 0),(.ref 858),(.int 633 0),(.int 0 0),(.ref 865),(.int 639 0),(.int 0 0),(.ref 870),(.int 642 0),(.int 0 0),(.ref 877),(.int 644 0),(.int 0 0),(.ref 882),(.int 647 0),(.int 0 0),(.ref 889),(.int 649 0),(.int 0 0),(.ref 894),(.int 656 0),(.int 0 0),(.ref 901),(.int 662 0),(.int 0 0),(.ref 908),(.int 664 0),(.int 0 0),(.ref 915),(.int 672 0),(.int 0 0),(.ref 922),(.int 688 0),(.int 0 0),(.ref 929),(.int 691 0),(.int 0 0),(.ref 936),(.int 696 0),(.int 0 0),(.ref 943),(.int 701 0),(.int 0 0),(.ref 950),(.int 707 0),(.int 0 0),(.ref 957),(.int 710 0),(.int 0 0),(.ref 964),(.int 714 0),(.int 0 0),(.ref 970),(.int 717 0),(.int 0 0),(.ref 977),(.int 726 0),(.int 0 0),(.ref 984),(.int 732 0),(.int 0 0),(.ref 991),(.int 743 0),(.int 0 0),(.ref 998),(.int 748 0),(.int 0 0),(.ref 1005),(.int 752 0),(.int 0 0),(.ref 1012),(.int 766 0),(.int 0 0),(.ref 1019)]⟩),⟨[]⟩⟩
def y684 (w : World) : Obj := ⟨(.type "dict"),none,(.dict ⟨[⟨hs w t395,(.str t395 1290),(.int 400 773)⟩]⟩ 1),⟨[]⟩⟩
def y685 (w : World) : Obj := ⟨(.type "tuple"),none,(.seq ⟨[]⟩ 0),⟨[]⟩⟩
def y686 (w : World) : Obj := ⟨.none,none,(.fields ⟨[]⟩),⟨[]⟩⟩
def y687 (w : World) : Obj := ⟨.none,none,(.func { name := t449, qualname := t449, params := defArgs (top 106), body := .stmts (defBody (top 106)), scope := defScope (top 106), globals := 0, closure := [], defaults := .none, kwdefaults := .none, doc := .none, pyModule := .none, annotations := none, code := .none, closureTuple := .none, builtins := 0 }),⟨[]⟩⟩
def y688 (w : World) : Obj := ⟨(.type "code"),none,(.fields ⟨[(.str t449 1291),(.str t449 1292),(.str t178 1293),(.int 474 0),(.int 2 0),(.int 0 0),(.int 1 0),(.int 3 0),(.ref 685),(.bool true),(.int 370 0),(.ref 686),.none,.none,.none,(.ref 687),(.int 1294 0),(.int 474 0),(.str t178 1295)]⟩),⟨[]⟩⟩
def y689 (w : World) : Obj := ⟨(.type "function"),none,(.func { name := t449, qualname := t449, params := defArgs (top 106), body := .stmts (defBody (top 106)), scope := defScope (top 106), globals := 3, closure := [], defaults := .none, kwdefaults := (.ref 684), doc := .none, pyModule := (.str t394 1278), annotations := none, code := (.ref 688), closureTuple := .none, builtins := 0 }),⟨[]⟩⟩
def y690 (w : World) : Obj := ⟨(.type "tuple"),none,(.seq ⟨[]⟩ 0),⟨[]⟩⟩
def y691 (w : World) : Obj := ⟨.none,none,(.fields ⟨[]⟩),⟨[]⟩⟩
def y692 (w : World) : Obj := ⟨(.type "tuple"),none,(.seq ⟨[(.str t328 1302),(.str t329 1303),(.str t395 1304)]⟩ 0),⟨[]⟩⟩
def y693 (w : World) : Obj := ⟨(.type "tuple"),none,(.seq ⟨[]⟩ 0),⟨[]⟩⟩
def y694 (w : World) : Obj := ⟨.none,none,(.func { name := t450, qualname := t450, params := defArgs (top 108), body := .stmts (defBody (top 108)), scope := defScope (top 108), globals := 0, closure := [], defaults := .none, kwdefaults := .none, doc := .none, pyModule := .none, annotations := none, code := .none, closureTuple := .none, builtins := 0 }),⟨[]⟩⟩
def y695 (w : World) : Obj := ⟨(.type "code"),none,(.fields ⟨[(.str t450 1299),(.str t450 1300),(.str t178 1301),(.int 483 0),(.int 3 0),(.int 0 0),(.int 0 0),(.int 3 0),(.ref 690),(.bool true),(.int 370 0),(.ref 691),.none,(.ref 692),(.ref 693),(.ref 694),(.int 1305 0),(.int 483 0),(.str t178 1306)]⟩),⟨[]⟩⟩
def y696 (w : World) : Obj := ⟨(.type "function"),none,(.func { name := t450, qualname := t450, params := defArgs (top 108), body := .stmts (defBody (top 108)), scope := defScope (top 108), globals := 3, closure := [], defaults := .none, kwdefaults := .none, doc := .none, pyModule := (.str t516 1297), annotations := none, code := (.ref 695), closureTuple := .none, builtins := 0 }),⟨[]⟩⟩
def y697 (w : World) : Obj := ⟨(.type "dict"),none,(.dict ⟨[⟨hs w t395,(.str t395 1309),(.int 400 773)⟩]⟩ 1),⟨[]⟩⟩
def y698 (w : World) : Obj := ⟨(.type "tuple"),none,(.seq ⟨[]⟩ 0),⟨[]⟩⟩
def y699 (w : World) : Obj := ⟨.none,none,(.fields ⟨[]⟩),⟨[]⟩⟩
def y700 (w : World) : Obj := ⟨(.type "tuple"),none,(.seq ⟨[(.str t328 1313),(.str t395 1314)]⟩ 0),⟨[]⟩⟩
def y701 (w : World) : Obj := ⟨(.type "tuple"),none,(.seq ⟨[]⟩ 0),⟨[]⟩⟩
def y702 (w : World) : Obj := ⟨.none,none,(.func { name := t452, qualname := t452, params := defArgs (top 110), body := .stmts (defBody (top 110)), scope := defScope (top 110), globals := 0, closure := [], defaults := .none, kwdefaults := .none, doc := .none, pyModule := .none, annotations := none, code := .none, closureTuple := .none, builtins := 0 }),⟨[]⟩⟩
def y703 (w : World) : Obj := ⟨(.type "code"),none,(.fields ⟨[(.str t452 1310),(.str t452 1311),(.str t178 1312),(.int 488 0),(.int 1 0),(.int 0 0),(.int 1 0),(.int 3 0),(.ref 698),(.bool true),(.int 370 0),(.ref 699),.none,(.ref 700),(.ref 701),(.ref 702),(.int 1315 0),(.int 488 0),(.str t178 1316)]⟩),⟨[]⟩⟩
def y704 (w : World) : Obj := ⟨(.type "function"),none,(.func { name := t452, qualname := t452, params := defArgs (top 110), body := .stmts (defBody (top 110)), scope := defScope (top 110), globals := 3, closure := [], defaults := .none, kwdefaults := (.ref 697), doc := .none, pyModule := (.str t516 1297), annotations := none, code := (.ref 703), closureTuple := .none, builtins := 0 }),⟨[]⟩⟩
def y705 (w : World) : Obj := ⟨(.type "dict"),none,(.dict ⟨[⟨hs w t395,(.str t395 1318),(.int 400 773)⟩]⟩ 1),⟨[]⟩⟩
def y706 (w : World) : Obj := ⟨(.type "tuple"),none,(.seq ⟨[]⟩ 0),⟨[]⟩⟩
def y707 (w : World) : Obj := ⟨.none,none,(.fields ⟨[]⟩),⟨[]⟩⟩
def y708 (w : World) : Obj := ⟨(.type "tuple"),none,(.seq ⟨[(.str t328 1322),(.str t329 1323),(.str t395 1324)]⟩ 0),⟨[]⟩⟩
def y709 (w : World) : Obj := ⟨(.type "tuple"),none,(.seq ⟨[]⟩ 0),⟨[]⟩⟩
def y710 (w : World) : Obj := ⟨.none,none,(.func { name := t453, qualname := t453, params := defArgs (top 111), body := .stmts (defBody (top 111)), scope := defScope (top 111), globals := 0, closure := [], defaults := .none, kwdefaults := .none, doc := .none, pyModule := .none, annotations := none, code := .none, closureTuple := .none, builtins := 0 }),⟨[]⟩⟩
def y711 (w : World) : Obj := ⟨(.type "code"),none,(.fields ⟨[(.str t453 1319),(.str t453 1320),(.str t178 1321),(.int 492 0),(.int 2 0),(.int 0 0),(.int 1 0),(.int 3 0),(.ref 706),(.bool true),(.int 370 0),(.ref 707),.none,(.ref 708),(.ref 709),(.ref 710),(.int 1325 0),(.int 492 0),(.str t178 1326)]⟩),⟨[]⟩⟩
def y712 (w : World) : Obj := ⟨(.type "function"),none,(.func { name := t453, qualname := t453, params := defArgs (top 111), body := .stmts (defBody (top 111)), scope := defScope (top 111), globals := 3, closure := [], defaults := .none, kwdefaults := (.ref 705), doc := .none, pyModule := (.str t516 1297), annotations := none, code := (.ref 711), closureTuple := .none, builtins := 0 }),⟨[]⟩⟩
def y713 (w : World) : Obj := ⟨(.type "tuple"),none,(.seq ⟨[]⟩ 0),⟨[]⟩⟩
def y714 (w : World) : Obj := ⟨.none,none,(.fields ⟨[]⟩),⟨[]⟩⟩
def y715 (w : World) : Obj := ⟨.none,none,(.func { name := t454, qualname := t454, params := defArgs (top 113), body := .stmts (defBody (top 113)), scope := defScope (top 113), globals := 0, closure := [], defaults := .none, kwdefaults := .none, doc := .none, pyModule := .none, annotations := none, code := .none, closureTuple := .none, builtins := 0 }),⟨[]⟩⟩
def y716 (w : World) : Obj := ⟨(.type "code"),none,(.fields ⟨[(.str t454 1330),(.str t454 1331),(.str t178 1332),(.int 496 0),(.int 2 0),(.int 0 0),(.int 0 0),(.int 3 0),(.ref 713),(.bool true),(.int 370 0),(.ref 714),.none,.none,.none,(.ref 715),(.int 1333 0),(.int 496 0),(.str t178 1334)]⟩),⟨[]⟩⟩
def y717 (w : World) : Obj := ⟨(.type "function"),none,(.func { name := t454, qualname := t454, params := defArgs (top 113), body := .stmts (defBody (top 113)), scope := defScope (top 113), globals := 3, closure := [], defaults := .none, kwdefaults := .none, doc := .none, pyModule := (.str t517 1328), annotations := none, code := (.ref 716), closureTuple := .none, builtins := 0 }),⟨[]⟩⟩
def y718 (w : World) : Obj := ⟨(.type "dict"),none,(.dict ⟨[⟨hs w t395,(.str t395 1336),(.int 400 773)⟩]⟩ 1),⟨[]⟩⟩
def y719 (w : World) : Obj := ⟨(.type "tuple"),none,(.seq ⟨[]⟩ 0),⟨[]⟩⟩
def y720 (w : World) : Obj := ⟨.none,none,(.fields ⟨[]⟩),⟨[]⟩⟩
def y721 (w : World) : Obj := ⟨(.type "tuple"),none,(.seq ⟨[(.str t328 1340),(.str t518 1341),(.str t395 1342)]⟩ 0),⟨[]⟩⟩
def y722 (w : World) : Obj := ⟨(.type "tuple"),none,(.seq ⟨[]⟩ 0),⟨[]⟩⟩
def y723 (w : World) : Obj := ⟨.none,none,(.func { name := t455, qualname := t455, params := defArgs (top 114), body := .stmts (defBody (top 114)), scope := defScope (top 114), globals := 0, closure := [], defaults := .none, kwdefaults := .none, doc := .none, pyModule := .none, annotations := none, code := .none, closureTuple := .none, builtins := 0 }),⟨[]⟩⟩
def y724 (w : World) : Obj := ⟨(.type "code"),none,(.fields ⟨[(.str t455 1337),(.str t455 1338),(.str t178 1339),(.int 502 0),(.int 2 0),(.int 0 0),(.int 1 0),(.int 3 0),(.ref 719),(.bool true),(.int 370 0),(.ref 720),.none,(.ref 721),(.ref 722),(.ref 723),(.int 1343 0),(.int 502 0),(.str t178 1344)]⟩),⟨[]⟩⟩
def y725 (w : World) : Obj := ⟨(.type "function"),none,(.func { name := t455, qualname := t455, params := defArgs (top 114), body := .stmts (defBody (top 114)), scope := defScope (top 114), globals := 3, closure := [], defaults := .none, kwdefaults := (.ref 718), doc := .none, pyModule := (.str t517 1328), annotations := none, code := (.ref 724), closureTuple := .none, builtins := 0 }),⟨[]⟩⟩
def y726 (w : World) : Obj := ⟨(.type "tuple"),none,(.seq ⟨[]⟩ 0),⟨[]⟩⟩
def y727 (w : World) : Obj := ⟨.none,none,(.fields ⟨[]⟩),⟨[]⟩⟩
def y728 (w : World) : Obj := ⟨.none,none,(.func { name := t456, qualname := t456, params := defArgs (top 116), body := .stmts (defBody (top 116)), scope := defScope (top 116), globals := 0, closure := [], defaults := .none, kwdefaults := .none, doc := .none, pyModule := .none, annotations := none, code := .none, closureTuple := .none, builtins := 0 }),⟨[]⟩⟩
def y729 (w : World) : Obj := ⟨(.type "code"),none,(.fields ⟨[(.str t456 1348),(.str t456 1349),(.str t178 1350),(.int 509 0),(.int 2 0),(.int 0 0),(.int 0 0),(.int 3 0),(.ref 726),(.bool true),(.int 370 0),(.ref 727),.none,.none,.none,(.ref 728),(.int 1351 0),(.int 509 0),(.str t178 1352)]⟩),⟨[]⟩⟩
def y730 (w : World) : Obj := ⟨(.type "function"),none,(.func { name := t456, qualname := t456, params := defArgs (top 116), body := .stmts (defBody (top 116)), scope := defScope (top 116), globals := 3, closure := [], defaults := .none, kwdefaults := .none, doc := .none, pyModule := (.str t519 1346), annotations := none, code := (.ref 729), closureTuple := .none, builtins := 0 }),⟨[]⟩⟩
def y731 (w : World) : Obj := ⟨(.type "tuple"),none,(.seq ⟨[]⟩ 0),⟨[]⟩⟩
def y732 (w : World) : Obj := ⟨.none,none,(.fields ⟨[]⟩),⟨[]⟩⟩
def y733 (w : World) : Obj := ⟨(.type "tuple"),none,(.seq ⟨[(.str t328 1357),(.str t520 1358)]⟩ 0),⟨[]⟩⟩
def y734 (w : World) : Obj := ⟨(.type "tuple"),none,(.seq ⟨[]⟩ 0),⟨[]⟩⟩
def y735 (w : World) : Obj := ⟨.none,none,(.func { name := t457, qualname := t457, params := defArgs (top 117), body := .stmts (defBody (top 117)), scope := defScope (top 117), globals := 0, closure := [], defaults := .none, kwdefaults := .none, doc := .none, pyModule := .none, annotations := none, code := .none, closureTuple := .none, builtins := 0 }),⟨[]⟩⟩
def y736 (w : World) : Obj := ⟨(.type "code"),none,(.fields ⟨[(.str t457 1354),(.str t457 1355),(.str t178 1356),(.int 511 0),(.int 2 0),(.int 0 0),(.int 0 0),(.int 3 0),(.ref 731),(.bool true),(.int 370 0),(.ref 732),.none,(.ref 733),(.ref 734),(.ref 735),(.int 1359 0),(.int 511 0),(.str t178 1360)]⟩),⟨[]⟩⟩
def y737 (w : World) : Obj := ⟨(.type "function"),none,(.func { name := t457, qualname := t457, params := defArgs (top 117), body := .stmts (defBody (top 117)), scope := defScope (top 117), globals := 3, closure := [], defaults := .none, kwdefaults := .none, doc := .none, pyModule := (.str t519 1346), annotations := none, code := (.ref 736), closureTuple := .none, builtins := 0 }),⟨[]⟩⟩
def y738 (w : World) : Obj := ⟨(.type "tuple"),none,(.seq ⟨[]⟩ 0),⟨[]⟩⟩
def y739 (w : World) : Obj := ⟨.none,none,(.fields ⟨[]⟩),⟨[]⟩⟩
def y740 (w : World) : Obj := ⟨.none,none,(.func { name := t458, qualname := t458, params := defArgs (top 118), body := .stmts (defBody (top 118)), scope := defScope (top 118), globals := 0, closure := [], defaults := .none, kwdefaults := .none, doc := .none, pyModule := .none, annotations := none, code := .none, closureTuple := .none, builtins := 0 }),⟨[]⟩⟩
def y741 (w : World) : Obj := ⟨(.type "code"),none,(.fields ⟨[(.str t458 1362),(.str t458 1363),(.str t178 1364),(.int 515 0),(.int 1 0),(.int 0 0),(.int 0 0),(.int 3 0),(.ref 738),(.bool true),(.int 370 0),(.ref 739),.none,.none,.none,(.ref 740),(.int 1365 0),(.int 515 0),(.str t178 1366)]⟩),⟨[]⟩⟩
def y742 (w : World) : Obj := ⟨(.type "function"),none,(.func { name := t458, qualname := t458, params := defArgs (top 118), body := .stmts (defBody (top 118)), scope := defScope (top 118), globals := 3, closure := [], defaults := .none, kwdefaults := .none, doc := .none, pyModule := (.str t519 1346), annotations := none, code := (.ref 741), closureTuple := .none, builtins := 0 }),⟨[]⟩⟩
def y743 (w : World) : Obj := ⟨(.type "tuple"),none,(.seq ⟨[]⟩ 0),⟨[]⟩⟩
def y744 (w : World) : Obj := ⟨.none,none,(.fields ⟨[]⟩),⟨[]⟩⟩
def y745 (w : World) : Obj := ⟨(.type "tuple"),none,(.seq ⟨[(.str t520 1371),(.str t423 1372),(.str t521 1373)]⟩ 0),⟨[]⟩⟩
def y746 (w : World) : Obj := ⟨(.type "tuple"),none,(.seq ⟨[]⟩ 0),⟨[]⟩⟩
def y747 (w : World) : Obj := ⟨.none,none,(.func { name := t459, qualname := t459, params := defArgs (top 119), body := .stmts (defBody (top 119)), scope := defScope (top 119), globals := 0, closure := [], defaults := .none, kwdefaults := .none, doc := .none, pyModule := .none, annotations := none, code := .none, closureTuple := .none, builtins := 0 }),⟨[]⟩⟩
def y748 (w : World) : Obj := ⟨(.type "code"),none,(.fields ⟨[(.str t459 1368),(.str t459 1369),(.str t178 1370),(.int 518 0),(.int 3 0),(.int 0 0),(.int 0 0),(.int 3 0),(.ref 743),(.bool true),(.int 370 0),(.ref 744),.none,(.ref 745),(.ref 746),(.ref 747),(.int 1374 0),(.int 518 0),(.str t178 1375)]⟩),⟨[]⟩⟩
def y749 (w : World) : Obj := ⟨(.type "function"),none,(.func { name := t459, qualname := t459, params := defArgs (top 119), body := .stmts (defBody (top 119)), scope := defScope (top 119), globals := 3, closure := [], defaults := .none, kwdefaults := .none, doc := .none, pyModule := (.str t519 1346), annotations := none, code := (.ref 748), closureTuple := .none, builtins := 0 }),⟨[]⟩⟩
def y750 (w : World) : Obj := ⟨(.type "tuple"),none,(.seq ⟨[]⟩ 0),⟨[]⟩⟩
def y751 (w : World) : Obj := ⟨.none,none,(.fields ⟨[]⟩),⟨[]⟩⟩
def y752 (w : World) : Obj := ⟨.none,none,(.func { name := t460, qualname := t460, params := defArgs (top 120), body := .stmts (defBody (top 120)), scope := defScope (top 120), globals := 0, closure := [], defaults := .none, kwdefaults := .none, doc := .none, pyModule := .none, annotations := none, code := .none, closureTuple := .none, builtins := 0 }),⟨[]⟩⟩
def y753 (w : World) : Obj := ⟨(.type "code"),none,(.fields ⟨[(.str t460 1377),(.str t460 1378),(.str t178 1379),(.int 520 0),(.int 2 0),(.int 0 0),(.int 0 0),(.int 3 0),(.ref 750),(.bool true),(.int 370 0),(.ref 751),.none,.none,.none,(.ref 752),(.int 1380 0),(.int 520 0),(.str t178 1381)]⟩),⟨[]⟩⟩
def y754 (w : World) : Obj := ⟨(.type "function"),none,(.func { name := t460, qualname := t460, params := defArgs (top 120), body := .stmts (defBody (top 120)), scope := defScope (top 120), globals := 3, closure := [], defaults := .none, kwdefaults := .none, doc := .none, pyModule := (.str t519 1346), annotations := none, code := (.ref 753), closureTuple := .none, builtins := 0 }),⟨[]⟩⟩
def y755 (w : World) : Obj := ⟨(.type "tuple"),none,(.seq ⟨[]⟩ 0),⟨[]⟩⟩
def y756 (w : World) : Obj := ⟨.none,none,(.fields ⟨[]⟩),⟨[]⟩⟩
def y757 (w : World) : Obj := ⟨.none,none,(.func { name := t461, qualname := t461, params := defArgs (top 121), body := .stmts (defBody (top 121)), scope := defScope (top 121), globals := 0, closure := [], defaults := .none, kwdefaults := .none, doc := .none, pyModule := .none, annotations := none, code := .none, closureTuple := .none, builtins := 0 }),⟨[]⟩⟩
def y758 (w : World) : Obj := ⟨(.type "code"),none,(.fields ⟨[(.str t461 1383),(.str t461 1384),(.str t178 1385),(.int 522 0),(.int 3 0),(.int 0 0),(.int 0 0),(.int 3 0),(.ref 755),(.bool true),(.int 370 0),(.ref 756),.none,.none,.none,(.ref 757),(.int 1386 0),(.int 522 0),(.str t178 1387)]⟩),⟨[]⟩⟩
def y759 (w : World) : Obj := ⟨(.type "function"),none,(.func { name := t461, qualname := t461, params := defArgs (top 121), body := .stmts (defBody (top 121)), scope := defScope (top 121), globals := 3, closure := [], defaults := .none, kwdefaults := .none, doc := .none, pyModule := (.str t519 1346), annotations := none, code := (.ref 758), closureTuple := .none, builtins := 0 }),⟨[]⟩⟩
def y760 (w : World) : Obj := ⟨(.type "tuple"),none,(.seq ⟨[]⟩ 0),⟨[]⟩⟩
def y761 (w : World) : Obj := ⟨.none,none,(.fields ⟨[]⟩),⟨[]⟩⟩
def y762 (w : World) : Obj := ⟨(.type "tuple"),none,(.seq ⟨[(.str t328 1392),(.str t520 1393),(.str t522 1394),(.str t521 1395),(.str t405 1396),(.str t333 1397),(.str t523 1398),(.str t418 1399),(.str t242 1400),(.str t334 1401),(.str t330 1402),(.str t524 1403)]⟩ 0),⟨[]⟩⟩
def y763 (w : World) : Obj := ⟨(.type "tuple"),none,(.seq ⟨[(.str t521 1404)]⟩ 0),⟨[]⟩⟩
def y764 (w : World) : Obj := ⟨.none,none,(.func { name := t462, qualname := t462, params := defArgs (top 122), body := .stmts (defBody (top 122)), scope := defScope (top 122), globals := 0, closure := [], defaults := .none, kwdefaults := .none, doc := .none, pyModule := .none, annotations := none, code := .none, closureTuple := .none, builtins := 0 }),⟨[]⟩⟩
def y765 (w : World) : Obj := ⟨(.type "code"),none,(.fields ⟨[(.str t462 1389),(.str t462 1390),(.str t178 1391),(.int 528 0),(.int 5 0),(.int 0 0),(.int 0 0),(.int 3 0),(.ref 760),(.bool true),(.int 370 0),(.ref 761),.none,(.ref 762),(.ref 763),(.ref 764),(.int 1405 0),(.int 528 0),(.str t178 1406)]⟩),⟨[]⟩⟩
def y766 (w : World) : Obj := ⟨(.type "function"),none,(.func { name := t462, qualname := t462, params := defArgs (top 122), body := .stmts (defBody (top 122)), scope := defScope (top 122), globals := 3, closure := [], defaults := .none, kwdefaults := .none, doc := .none, pyModule := (.str t519 1346), annotations := none, code := (.ref 765), closureTuple := .none, builtins := 0 }),⟨[]⟩⟩
def y767 (w : World) : Obj := ⟨(.type "tuple"),none,(.seq ⟨[]⟩ 0),⟨[]⟩⟩
def y768 (w : World) : Obj := ⟨.none,none,(.fields ⟨[]⟩),⟨[]⟩⟩
def y769 (w : World) : Obj := ⟨(.type "tuple"),none,(.seq ⟨[(.str t328 1411),(.str t520 1412),(.str t522 1413),(.str t521 1414),(.str t405 1415),(.str t444 1416)]⟩ 0),⟨[]⟩⟩
def y770 (w : World) : Obj := ⟨(.type "tuple"),none,(.seq ⟨[]⟩ 0),⟨[]⟩⟩
def y771 (w : World) : Obj := ⟨.none,none,(.func { name := t463, qualname := t463, params := defArgs (top 123), body := .stmts (defBody (top 123)), scope := defScope (top 123), globals := 0, closure := [], defaults := .none, kwdefaults := .none, doc := .none, pyModule := .none, annotations := none, code := .none, closureTuple := .none, builtins := 0 }),⟨[]⟩⟩
def y772 (w : World) : Obj := ⟨(.type "code"),none,(.fields ⟨[(.str t463 1408),(.str t463 1409),(.str t178 1410),(.int 537 0),(.int 2 0),(.int 0 0),(.int 0 0),(.int 3 0),(.ref 767),(.bool true),(.int 370 0),(.ref 768),.none,(.ref 769),(.ref 770),(.ref 771),(.int 1417 0),(.int 537 0),(.str t178 1418)]⟩),⟨[]⟩⟩
def y773 (w : World) : Obj := ⟨(.type "function"),none,(.func { name := t463, qualname := t463, params := defArgs (top 123), body := .stmts (defBody (top 123)), scope := defScope (top 123), globals := 3, closure := [], defaults := .none, kwdefaults := .none, doc := .none, pyModule := (.str t519 1346), annotations := none, code := (.ref 772), closureTuple := .none, builtins := 0 }),⟨[]⟩⟩
def y774 (w : World) : Obj := ⟨(.type "tuple"),none,(.seq ⟨[]⟩ 0),⟨[]⟩⟩
def y775 (w : World) : Obj := ⟨.none,none,(.fields ⟨[]⟩),⟨[]⟩⟩
def y776 (w : World) : Obj := ⟨.none,none,(.func { name := t464, qualname := t464, params := defArgs (top 124), body := .stmts (defBody (top 124)), scope := defScope (top 124), globals := 0, closure := [], defaults := .none, kwdefaults := .none, doc := .none, pyModule := .none, annotations := none, code := .none, closureTuple := .none, builtins := 0 }),⟨[]⟩⟩
def y777 (w : World) : Obj := ⟨(.type "code"),none,(.fields ⟨[(.str t464 1420),(.str t464 1421),(.str t178 1422),(.int 545 0),(.int 2 0),(.int 0 0),(.int 0 0),(.int 3 0),(.ref 774),(.bool true),(.int 370 0),(.ref 775),.none,.none,.none,(.ref 776),(.int 1423 0),(.int 545 0),(.str t178 1424)]⟩),⟨[]⟩⟩
def y778 (w : World) : Obj := ⟨(.type "function"),none,(.func { name := t464, qualname := t464, params := defArgs (top 124), body := .stmts (defBody (top 124)), scope := defScope (top 124), globals := 3, closure := [], defaults := .none, kwdefaults := .none, doc := .none, pyModule := (.str t519 1346), annotations := none, code := (.ref 777), closureTuple := .none, builtins := 0 }),⟨[]⟩⟩
def y779 (w : World) : Obj := ⟨(.type "tuple"),none,(.seq ⟨[]⟩ 0),⟨[]⟩⟩
def y780 (w : World) : Obj := ⟨.none,none,(.fields ⟨[]⟩),⟨[]⟩⟩
def y781 (w : World) : Obj := ⟨(.type "tuple"),none,(.seq ⟨[(.str t328 1429),(.str t520 1430),(.str t441 1431),(.str t521 1432),(.str t405 1433),(.str t407 1434),(.str t242 1435),(.str t422 1436)]⟩ 0),⟨[]⟩⟩
def y782 (w : World) : Obj := ⟨(.type "tuple"),none,(.seq ⟨[]⟩ 0),⟨[]⟩⟩
def y783 (w : World) : Obj := ⟨.none,none,(.func { name := t465, qualname := t465, params := defArgs (top 125), body := .stmts (defBody (top 125)), scope := defScope (top 125), globals := 0, closure := [], defaults := .none, kwdefaults := .none, doc := .none, pyModule := .none, annotations := none, code := .none, closureTuple := .none, builtins := 0 }),⟨[]⟩⟩
def y784 (w : World) : Obj := ⟨(.type "code"),none,(.fields ⟨[(.str t465 1426),(.str t465 1427),(.str t178 1428),(.int 554 0),(.int 2 0),(.int 0 0),(.int 0 0),(.int 3 0),(.ref 779),(.bool true),(.int 370 0),(.ref 780),.none,(.ref 781),(.ref 782),(.ref 783),(.int 1437 0),(.int 554 0),(.str t178 1438)]⟩),⟨[]⟩⟩
def y785 (w : World) : Obj := ⟨(.type "function"),none,(.func { name := t465, qualname := t465, params := defArgs (top 125), body := .stmts (defBody (top 125)), scope := defScope (top 125), globals := 3, closure := [], defaults := .none, kwdefaults := .none, doc := .none, pyModule := (.str t519 1346), annotations := none, code := (.ref 784), closureTuple := .none, builtins := 0 }),⟨[]⟩⟩
def y786 (w : World) : Obj := ⟨(.type "tuple"),none,(.seq ⟨[]⟩ 0),⟨[]⟩⟩
def y787 (w : World) : Obj := ⟨.none,none,(.fields ⟨[]⟩),⟨[]⟩⟩
def y788 (w : World) : Obj := ⟨(.type "tuple"),none,(.seq ⟨[(.str t328 1443),(.str t520 1444)]⟩ 0),⟨[]⟩⟩
def y789 (w : World) : Obj := ⟨(.type "tuple"),none,(.seq ⟨[]⟩ 0),⟨[]⟩⟩
def y790 (w : World) : Obj := ⟨.none,none,(.func { name := t466, qualname := t466, params := defArgs (top 126), body := .stmts (defBody (top 126)), scope := defScope (top 126), globals := 0, closure := [], defaults := .none, kwdefaults := .none, doc := .none, pyModule := .none, annotations := none, code := .none, closureTuple := .none, builtins := 0 }),⟨[]⟩⟩
def y791 (w : World) : Obj := ⟨(.type "code"),none,(.fields ⟨[(.str t466 1440),(.str t466 1441),(.str t178 1442),(.int 566 0),(.int 2 0),(.int 0 0),(.int 0 0),(.int 3 0),(.ref 786),(.bool true),(.int 370 0),(.ref 787),.none,(.ref 788),(.ref 789),(.ref 790),(.int 1445 0),(.int 566 0),(.str t178 1446)]⟩),⟨[]⟩⟩
def y792 (w : World) : Obj := ⟨(.type "function"),none,(.func { name := t466, qualname := t466, params := defArgs (top 126), body := .stmts (defBody (top 126)), scope := defScope (top 126), globals := 3, closure := [], defaults := .none, kwdefaults := .none, doc := .none, pyModule := (.str t519 1346), annotations := none, code := (.ref 791), closureTuple := .none, builtins := 0 }),⟨[]⟩⟩
def y793 (w : World) : Obj := ⟨(.type "tuple"),none,(.seq ⟨[(.str t525 1450),(.str t395 1451),(.str t526 1452)]⟩ 0),⟨[]⟩⟩
def y794 (w : World) : Obj := ⟨(.type "tuple"),none,(.seq ⟨[(.str t527 1454),(.str t528 1455)]⟩ 0),⟨[]⟩⟩
def y795 (w : World) : Obj := ⟨(.type "tuple"),none,(.seq ⟨[(.str t529 1457),(.str t530 1458)]⟩ 0),⟨[]⟩⟩
def y796 (w : World) : Obj := ⟨(.type "tuple"),none,(.seq ⟨[]⟩ 0),⟨[]⟩⟩
def y797 (w : World) : Obj := ⟨.none,none,(.fields ⟨[]⟩),⟨[]⟩⟩
def y798 (w : World) : Obj := ⟨(.type "tuple"),none,(.seq ⟨[(.str t296 1463)]⟩ 0),⟨[]⟩⟩
def y799 (w : World) : Obj := ⟨(.type "tuple"),none,(.seq ⟨[]⟩ 0),⟨[]⟩⟩
def y800 (w : World) : Obj := ⟨.none,none,(.func { name := t470, qualname := t470, params := defArgs (top 131), body := .stmts (defBody (top 131)), scope := defScope (top 131), globals := 0, closure := [], defaults := .none, kwdefaults := .none, doc := .none, pyModule := .none, annotations := none, code := .none, closureTuple := .none, builtins := 0 }),⟨[]⟩⟩
def y801 (w : World) : Obj := ⟨(.type "code"),none,(.fields ⟨[(.str t470 1460),(.str t470 1461),(.str t178 1462),(.int 573 0),(.int 1 0),(.int 0 0),(.int 0 0),(.int 3 0),(.ref 796),(.bool true),(.int 370 0),(.ref 797),.none,(.ref 798),(.ref 799),(.ref 800),(.int 1464 0),(.int 573 0),(.str t178 1465)]⟩),⟨[]⟩⟩
def y802 (w : World) : Obj := ⟨(.type "function"),none,(.func { name := t470, qualname := t470, params := defArgs (top 131), body := .stmts (defBody (top 131)), scope := defScope (top 131), globals := 3, closure := [], defaults := .none, kwdefaults := .none, doc := .none, pyModule := (.str t531 1448), annotations := none, code := (.ref 801), closureTuple := .none, builtins := 0 }),⟨[]⟩⟩
def y803 (w : World) : Obj := ⟨(.type "tuple"),none,(.seq ⟨[]⟩ 0),⟨[]⟩⟩
def y804 (w : World) : Obj := ⟨.none,none,(.fields ⟨[]⟩),⟨[]⟩⟩
def y805 (w : World) : Obj := ⟨(.type "tuple"),none,(.seq ⟨[(.str t296 1470)]⟩ 0),⟨[]⟩⟩
def y806 (w : World) : Obj := ⟨(.type "tuple"),none,(.seq ⟨[]⟩ 0),⟨[]⟩⟩
def y807 (w : World) : Obj := ⟨.none,none,(.func { name := t471, qualname := t471, params := defArgs (top 132), body := .stmts (defBody (top 132)), scope := defScope (top 132), globals := 0, closure := [], defaults := .none, kwdefaults := .none, doc := .none, pyModule := .none, annotations := none, code := .none, closureTuple := .none, builtins := 0 }),⟨[]⟩⟩
def y808 (w : World) : Obj := ⟨(.type "code"),none,(.fields ⟨[(.str t471 1467),(.str t471 1468),(.str t178 1469),(.int 579 0),(.int 1 0),(.int 0 0),(.int 0 0),(.int 3 0),(.ref 803),(.bool true),(.int 370 0),(.ref 804),.none,(.ref 805),(.ref 806),(.ref 807),(.int 1471 0),(.int 579 0),(.str t178 1472)]⟩),⟨[]⟩⟩
def y809 (w : World) : Obj := ⟨(.type "function"),none,(.func { name := t471, qualname := t471, params := defArgs (top 132), body := .stmts (defBody (top 132)), scope := defScope (top 132), globals := 3, closure := [], defaults := .none, kwdefaults := .none, doc := .none, pyModule := (.str t531 1448), annotations := none, code := (.ref 808), closureTuple := .none, builtins := 0 }),⟨[]⟩⟩
def y810 (w : World) : Obj := ⟨(.type "tuple"),none,(.seq ⟨[]⟩ 0),⟨[]⟩⟩
def y811 (w : World) : Obj := ⟨.none,none,(.fields ⟨[]⟩),⟨[]⟩⟩
def y812 (w : World) : Obj := ⟨(.type "tuple"),none,(.seq ⟨[(.str t532 1477)]⟩ 0),⟨[]⟩⟩
def y813 (w : World) : Obj := ⟨(.type "tuple"),none,(.seq ⟨[]⟩ 0),⟨[]⟩⟩
def y814 (w : World) : Obj := ⟨.none,none,(.func { name := t472, qualname := t472, params := defArgs (top 133), body := .stmts (defBody (top 133)), scope := defScope (top 133), globals := 0, closure := [], defaults := .none, kwdefaults := .none, doc := .none, pyModule := .none, annotations := none, code := .none, closureTuple := .none, builtins := 0 }),⟨[]⟩⟩
def y815 (w : World) : Obj := ⟨(.type "code"),none,(.fields ⟨[(.str t472 1474),(.str t472 1475),(.str t178 1476),(.int 589 0),(.int 1 0),(.int 0 0),(.int 0 0),(.int 3 0),(.ref 810),(.bool true),(.int 370 0),(.ref 811),.none,(.ref 812),(.ref 813),(.ref 814),(.int 1478 0),(.int 589 0),(.str t178 1479)]⟩),⟨[]⟩⟩
def y816 (w : World) : Obj := ⟨(.type "function"),none,(.func { name := t472, qualname := t472, params := defArgs (top 133), body := .stmts (defBody (top 133)), scope := defScope (top 133), globals := 3, closure := [], defaults := .none, kwdefaults := .none, doc := .none, pyModule := (.str t531 1448), annotations := none, code := (.ref 815), closureTuple := .none, builtins := 0 }),⟨[]⟩⟩
def y817 (w : World) : Obj := ⟨(.type "tuple"),none,(.seq ⟨[]⟩ 0),⟨[]⟩⟩
def y818 (w : World) : Obj := ⟨.none,none,(.fields ⟨[]⟩),⟨[]⟩⟩
def y819 (w : World) : Obj := ⟨(.type "tuple"),none,(.seq ⟨[(.str t532 1484)]⟩ 0),⟨[]⟩⟩
def y820 (w : World) : Obj := ⟨(.type "tuple"),none,(.seq ⟨[]⟩ 0),⟨[]⟩⟩
def y821 (w : World) : Obj := ⟨.none,none,(.func { name := t473, qualname := t473, params := defArgs (top 134), body := .stmts (defBody (top 134)), scope := defScope (top 134), globals := 0, closure := [], defaults := .none, kwdefaults := .none, doc := .none, pyModule := .none, annotations := none, code := .none, closureTuple := .none, builtins := 0 }),⟨[]⟩⟩
def y822 (w : World) : Obj := ⟨(.type "code"),none,(.fields ⟨[(.str t473 1481),(.str t473 1482),(.str t178 1483),(.int 592 0),(.int 1 0),(.int 0 0),(.int 0 0),(.int 3 0),(.ref 817),(.bool true),(.int 370 0),(.ref 818),.none,(.ref 819),(.ref 820),(.ref 821),(.int 1485 0),(.int 592 0),(.str t178 1486)]⟩),⟨[]⟩⟩
def y823 (w : World) : Obj := ⟨(.type "function"),none,(.func { name := t473, qualname := t473, params := defArgs (top 134), body := .stmts (defBody (top 134)), scope := defScope (top 134), globals := 3, closure := [], defaults := .none, kwdefaults := .none, doc := .none, pyModule := (.str t531 1448), annotations := none, code := (.ref 822), closureTuple := .none, builtins := 0 }),⟨[]⟩⟩
def y824 (w : World) : Obj := ⟨(.type "tuple"),none,(.seq ⟨[]⟩ 0),⟨[]⟩⟩
def y825 (w : World) : Obj := ⟨.none,none,(.fields ⟨[]⟩),⟨[]⟩⟩
def y826 (w : World) : Obj := ⟨(.type "tuple"),none,(.seq ⟨[(.str t532 1491)]⟩ 0),⟨[]⟩⟩
def y827 (w : World) : Obj := ⟨(.type "tuple"),none,(.seq ⟨[]⟩ 0),⟨[]⟩⟩
def y828 (w : World) : Obj := ⟨.none,none,(.func { name := t474, qualname := t474, params := defArgs (top 135), body := .stmts (defBody (top 135)), scope := defScope (top 135), globals := 0, closure := [], defaults := .none, kwdefaults := .none, doc := .none, pyModule := .none, annotations := none, code := .none, closureTuple := .none, builtins := 0 }),⟨[]⟩⟩
def y829 (w : World) : Obj := ⟨(.type "code"),none,(.fields ⟨[(.str t474 1488),(.str t474 1489),(.str t178 1490),(.int 596 0),(.int 1 0),(.int 0 0),(.int 0 0),(.int 3 0),(.ref 824),(.bool true),(.int 370 0),(.ref 825),.none,(.ref 826),(.ref 827),(.ref 828),(.int 1492 0),(.int 596 0),(.str t178 1493)]⟩),⟨[]⟩⟩
def y830 (w : World) : Obj := ⟨(.type "function"),none,(.func { name := t474, qualname := t474, params := defArgs (top 135), body := .stmts (defBody (top 135)), scope := defScope (top 135), globals := 3, closure := [], defaults := .none, kwdefaults := .none, doc := .none, pyModule := (.str t531 1448), annotations := none, code := (.ref 829), closureTuple := .none, builtins := 0 }),⟨[]⟩⟩
def y831 (w : World) : Obj := ⟨(.type "tuple"),none,(.seq ⟨[]⟩ 0),⟨[]⟩⟩
def y832 (w : World) : Obj := ⟨.none,none,(.fields ⟨[]⟩),⟨[]⟩⟩
def y833 (w : World) : Obj := ⟨.none,none,(.func { name := t475, qualname := t475, params := defArgs (top 136), body := .stmts (defBody (top 136)), scope := defScope (top 136), globals := 0, closure := [], defaults := .none, kwdefaults := .none, doc := .none, pyModule := .none, annotations := none, code := .none, closureTuple := .none, builtins := 0 }),⟨[]⟩⟩
def y834 (w : World) : Obj := ⟨(.type "code"),none,(.fields ⟨[(.str t475 1495),(.str t475 1496),(.str t178 1497),(.int 598 0),(.int 1 0),(.int 0 0),(.int 0 0),(.int 3 0),(.ref 831),(.bool true),(.int 370 0),(.ref 832),.none,.none,.none,(.ref 833),(.int 1498 0),(.int 598 0),(.str t178 1499)]⟩),⟨[]⟩⟩
def y835 (w : World) : Obj := ⟨(.type "function"),none,(.func { name := t475, qualname := t475, params := defArgs (top 136), body := .stmts (defBody (top 136)), scope := defScope (top 136), globals := 3, closure := [], defaults := .none, kwdefaults := .none, doc := .none, pyModule := (.str t531 1448), annotations := none, code := (.ref 834), closureTuple := .none, builtins := 0 }),⟨[]⟩⟩
def y836 (w : World) : Obj := ⟨(.type "tuple"),none,(.seq ⟨[]⟩ 0),⟨[]⟩⟩
def y837 (w : World) : Obj := ⟨.none,none,(.fields ⟨[]⟩),⟨[]⟩⟩
def y838 (w : World) : Obj := ⟨(.type "tuple"),none,(.seq ⟨[(.str t532 1504),(.str t324 1505)]⟩ 0),⟨[]⟩⟩
def y839 (w : World) : Obj := ⟨(.type "tuple"),none,(.seq ⟨[(.str t324 1506)]⟩ 0),⟨[]⟩⟩
def y840 (w : World) : Obj := ⟨.none,none,(.func { name := t476, qualname := t476, params := defArgs (top 137), body := .stmts (defBody (top 137)), scope := defScope (top 137), globals := 0, closure := [], defaults := .none, kwdefaults := .none, doc := .none, pyModule := .none, annotations := none, code := .none, closureTuple := .none, builtins := 0 }),⟨[]⟩⟩
def y841 (w : World) : Obj := ⟨(.type "code"),none,(.fields ⟨[(.str t476 1501),(.str t476 1502),(.str t178 1503),(.int 607 0),(.int 2 0),(.int 0 0),(.int 0 0),(.int 3 0),(.ref 836),(.bool true),(.int 370 0),(.ref 837),.none,(.ref 838),(.ref 839),(.ref 840),(.int 1507 0),(.int 607 0),(.str t178 1508)]⟩),⟨[]⟩⟩
def y842 (w : World) : Obj := ⟨(.type "function"),none,(.func { name := t476, qualname := t476, params := defArgs (top 137), body := .stmts (defBody (top 137)), scope := defScope (top 137), globals := 3, closure := [], defaults := .none, kwdefaults := .none, doc := .none, pyModule := (.str t531 1448), annotations := none, code := (.ref 841), closureTuple := .none, builtins := 0 }),⟨[]⟩⟩
def y843 (w : World) : Obj := ⟨(.type "tuple"),none,(.seq ⟨[]⟩ 0),⟨[]⟩⟩
def y844 (w : World) : Obj := ⟨.none,none,(.fields ⟨[]⟩),⟨[]⟩⟩
def y845 (w : World) : Obj := ⟨.none,none,(.func { name := t480, qualname := t480, params := defArgs (top 142), body := .stmts (defBody (top 142)), scope := defScope (top 142), globals := 0, closure := [], defaults := .none, kwdefaults := .none, doc := .none, pyModule := .none, annotations := none, code := .none, closureTuple := .none, builtins := 0 }),⟨[]⟩⟩
def y846 (w : World) : Obj := ⟨(.type "code"),none,(.fields ⟨[(.str t480 1518),(.str t480 1519),(.str t178 1520),(.int 613 0),(.int 1 0),(.int 0 0),(.int 0 0),(.int 3 0),(.ref 843),(.bool true),(.int 370 0),(.ref 844),.none,.none,.none,(.ref 845),(.int 1521 0),(.int 613 0),(.str t178 1522)]⟩),⟨[]⟩⟩
def y847 (w : World) : Obj := ⟨(.type "function"),none,(.func { name := t480, qualname := t480, params := defArgs (top 142), body := .stmts (defBody (top 142)), scope := defScope (top 142), globals := 3, closure := [], defaults := .none, kwdefaults := .none, doc := .none, pyModule := (.str t533 1510), annotations := none, code := (.ref 846), closureTuple := .none, builtins := 0 }),⟨[]⟩⟩
def y848 (w : World) : Obj := ⟨(.type "tuple"),none,(.seq ⟨[]⟩ 0),⟨[]⟩⟩
def y849 (w : World) : Obj := ⟨.none,none,(.fields ⟨[]⟩),⟨[]⟩⟩
def y850 (w : World) : Obj := ⟨(.type "tuple"),none,(.seq ⟨[(.str t328 1527),(.str t324 1528),(.str t325 1529),(.str t326 1530),(.str t327 1531),(.str t332 1532),(.str t242 1533),(.str t402 1534),(.str t330 1535)]⟩ 0),⟨[]⟩⟩
def y851 (w : World) : Obj := ⟨(.type "tuple"),none,(.seq ⟨[]⟩ 0),⟨[]⟩⟩
def y852 (w : World) : Obj := ⟨.none,none,(.func { name := t481, qualname := t481, params := defArgs (top 143), body := .stmts (defBody (top 143)), scope := defScope (top 143), globals := 0, closure := [], defaults := .none, kwdefaults := .none, doc := .none, pyModule := .none, annotations := none, code := .none, closureTuple := .none, builtins := 0 }),⟨[]⟩⟩
def y853 (w : World) : Obj := ⟨(.type "code"),none,(.fields ⟨[(.str t481 1524),(.str t481 1525),(.str t178 1526),(.int 615 0),(.int 1 0),(.int 0 0),(.int 0 0),(.int 3 0),(.ref 848),(.bool true),(.int 370 0),(.ref 849),.none,(.ref 850),(.ref 851),(.ref 852),(.int 1536 0),(.int 615 0),(.str t178 1537)]⟩),⟨[]⟩⟩
def y854 (w : World) : Obj := ⟨(.type "function"),none,(.func { name := t481, qualname := t481, params := defArgs (top 143), body := .stmts (defBody (top 143)), scope := defScope (top 143), globals := 3, closure := [], defaults := .none, kwdefaults := .none, doc := .none, pyModule := (.str t533 1510), annotations := none, code := (.ref 853), closureTuple := .none, builtins := 0 }),⟨[]⟩⟩
def y855 (w : World) : Obj := ⟨(.type "tuple"),none,(.seq ⟨[]⟩ 0),⟨[]⟩⟩
def y856 (w : World) : Obj := ⟨.none,none,(.fields ⟨[]⟩),⟨[]⟩⟩
def y857 (w : World) : Obj := ⟨.none,none,(.func { name := t482, qualname := t482, params := defArgs (top 144), body := .stmts (defBody (top 144)), scope := defScope (top 144), globals := 0, closure := [], defaults := .none, kwdefaults := .none, doc := .none, pyModule := .none, annotations := none, code := .none, closureTuple := .none, builtins := 0 }),⟨[]⟩⟩
def y858 (w : World) : Obj := ⟨(.type "code"),none,(.fields ⟨[(.str t482 1539),(.str t482 1540),(.str t178 1541),(.int 621 0),(.int 1 0),(.int 0 0),(.int 0 0),(.int 3 0),(.ref 855),(.bool true),(.int 370 0),(.ref 856),.none,.none,.none,(.ref 857),(.int 1542 0),(.int 621 0),(.str t178 1543)]⟩),⟨[]⟩⟩
def y859 (w : World) : Obj := ⟨(.type "function"),none,(.func { name := t482, qualname := t482, params := defArgs (top 144), body := .stmts (defBody (top 144)), scope := defScope (top 144), globals := 3, closure := [], defaults := .none, kwdefaults := .none, doc := .none, pyModule := (.str t533 1510), annotations := none, code := (.ref 858), closureTuple := .none, builtins := 0 }),⟨[]⟩⟩
def y860 (w : World) : Obj := ⟨(.type "tuple"),none,(.seq ⟨[]⟩ 0),⟨[]⟩⟩
def y861 (w : World) : Obj := ⟨.none,none,(.fields ⟨[]⟩),⟨[]⟩⟩
def y862 (w : World) : Obj := ⟨(.type "tuple"),none,(.seq ⟨[(.str t534 1556),(.str t417 1557),(.str t332 1558)]⟩ 0),⟨[]⟩⟩
def y863 (w : World) : Obj := ⟨(.type "tuple"),none,(.seq ⟨[]⟩ 0),⟨[]⟩⟩
def y864 (w : World) : Obj := ⟨.none,none,(.func { name := t486, qualname := t486, params := defArgs (top 149), body := .stmts (defBody (top 149)), scope := defScope (top 149), globals := 0, closure := [], defaults := .none, kwdefaults := .none, doc := .none, pyModule := .none, annotations := none, code := .none, closureTuple := .none, builtins := 0 }),⟨[]⟩⟩
def y865 (w : World) : Obj := ⟨(.type "code"),none,(.fields ⟨[(.str t486 1553),(.str t486 1554),(.str t178 1555),(.int 633 0),(.int 1 0),(.int 0 0),(.int 0 0),(.int 3 0),(.ref 860),(.bool true),(.int 370 0),(.ref 861),.none,(.ref 862),(.ref 863),(.ref 864),(.int 1559 0),(.int 633 0),(.str t178 1560)]⟩),⟨[]⟩⟩
def y866 (w : World) : Obj := ⟨(.type "function"),none,(.func { name := t486, qualname := t486, params := defArgs (top 149), body := .stmts (defBody (top 149)), scope := defScope (top 149), globals := 3, closure := [], defaults := .none, kwdefaults := .none, doc := .none, pyModule := (.str t535 1545), annotations := none, code := (.ref 865), closureTuple := .none, builtins := 0 }),⟨[]⟩⟩
def y867 (w : World) : Obj := ⟨(.type "tuple"),none,(.seq ⟨[]⟩ 0),⟨[]⟩⟩
def y868 (w : World) : Obj := ⟨.none,none,(.fields ⟨[]⟩),⟨[]⟩⟩
def y869 (w : World) : Obj := ⟨.none,none,(.func { name := t487, qualname := t487, params := defArgs (top 150), body := .stmts (defBody (top 150)), scope := defScope (top 150), globals := 0, closure := [], defaults := .none, kwdefaults := .none, doc := .none, pyModule := .none, annotations := none, code := .none, closureTuple := .none, builtins := 0 }),⟨[]⟩⟩
def y870 (w : World) : Obj := ⟨(.type "code"),none,(.fields ⟨[(.str t487 1562),(.str t487 1563),(.str t178 1564),(.int 639 0),(.int 1 0),(.int 0 0),(.int 0 0),(.int 3 0),(.ref 867),(.bool true),(.int 370 0),(.ref 868),.none,.none,.none,(.ref 869),(.int 1565 0),(.int 639 0),(.str t178 1566)]⟩),⟨[]⟩⟩
def y871 (w : World) : Obj := ⟨(.type "function"),none,(.func { name := t487, qualname := t487, params := defArgs (top 150), body := .stmts (defBody (top 150)), scope := defScope (top 150), globals := 3, closure := [], defaults := .none, kwdefaults := .none, doc := .none, pyModule := (.str t535 1545), annotations := none, code := (.ref 870), closureTuple := .none, builtins := 0 }),⟨[]⟩⟩
def y872 (w : World) : Obj := ⟨(.type "tuple"),none,(.seq ⟨[]⟩ 0),⟨[]⟩⟩
def y873 (w : World) : Obj := ⟨.none,none,(.fields ⟨[]⟩),⟨[]⟩⟩
def y874 (w : World) : Obj := ⟨(.type "tuple"),none,(.seq ⟨[(.str t534 1571)]⟩ 0),⟨[]⟩⟩
def y875 (w : World) : Obj := ⟨(.type "tuple"),none,(.seq ⟨[]⟩ 0),⟨[]⟩⟩
def y876 (w : World) : Obj := ⟨.none,none,(.func { name := t488, qualname := t488, params := defArgs (top 151), body := .stmts (defBody (top 151)), scope := defScope (top 151), globals := 0, closure := [], defaults := .none, kwdefaults := .none, doc := .none, pyModule := .none, annotations := none, code := .none, closureTuple := .none, builtins := 0 }),⟨[]⟩⟩
def y877 (w : World) : Obj := ⟨(.type "code"),none,(.fields ⟨[(.str t488 1568),(.str t488 1569),(.str t178 1570),(.int 642 0),(.int 1 0),(.int 0 0),(.int 0 0),(.int 3 0),(.ref 872),(.bool true),(.int 370 0),(.ref 873),.none,(.ref 874),(.ref 875),(.ref 876),(.int 1572 0),(.int 642 0),(.str t178 1573)]⟩),⟨[]⟩⟩
def y878 (w : World) : Obj := ⟨(.type "function"),none,(.func { name := t488, qualname := t488, params := defArgs (top 151), body := .stmts (defBody (top 151)), scope := defScope (top 151), globals := 3, closure := [], defaults := .none, kwdefaults := .none, doc := .none, pyModule := (.str t535 1545), annotations := none, code := (.ref 877), closureTuple := .none, builtins := 0 }),⟨[]⟩⟩
def y879 (w : World) : Obj := ⟨(.type "tuple"),none,(.seq ⟨[]⟩ 0),⟨[]⟩⟩
def y880 (w : World) : Obj := ⟨.none,none,(.fields ⟨[]⟩),⟨[]⟩⟩
def y881 (w : World) : Obj := ⟨.none,none,(.func { name := t489, qualname := t489, params := defArgs (top 152), body := .stmts (defBody (top 152)), scope := defScope (top 152), globals := 0, closure := [], defaults := .none, kwdefaults := .none, doc := .none, pyModule := .none, annotations := none, code := .none, closureTuple := .none, builtins := 0 }),⟨[]⟩⟩
def y882 (w : World) : Obj := ⟨(.type "code"),none,(.fields ⟨[(.str t489 1575),(.str t489 1576),(.str t178 1577),(.int 644 0),(.int 2 0),(.int 0 0),(.int 0 0),(.int 3 0),(.ref 879),(.bool true),(.int 370 0),(.ref 880),.none,.none,.none,(.ref 881),(.int 1578 0),(.int 644 0),(.str t178 1579)]⟩),⟨[]⟩⟩
def y883 (w : World) : Obj := ⟨(.type "function"),none,(.func { name := t489, qualname := t489, params := defArgs (top 152), body := .stmts (defBody (top 152)), scope := defScope (top 152), globals := 3, closure := [], defaults := .none, kwdefaults := .none, doc := .none, pyModule := (.str t535 1545), annotations := none, code := (.ref 882), closureTuple := .none, builtins := 0 }),⟨[]⟩⟩
def y884 (w : World) : Obj := ⟨(.type "tuple"),none,(.seq ⟨[]⟩ 0),⟨[]⟩⟩
def y885 (w : World) : Obj := ⟨.none,none,(.fields ⟨[]⟩),⟨[]⟩⟩
def y886 (w : World) : Obj := ⟨(.type "tuple"),none,(.seq ⟨[(.str t536 1584)]⟩ 0),⟨[]⟩⟩
def y887 (w : World) : Obj := ⟨(.type "tuple"),none,(.seq ⟨[]⟩ 0),⟨[]⟩⟩
def y888 (w : World) : Obj := ⟨.none,none,(.func { name := t490, qualname := t490, params := defArgs (top 153), body := .stmts (defBody (top 153)), scope := defScope (top 153), globals := 0, closure := [], defaults := .none, kwdefaults := .none, doc := .none, pyModule := .none, annotations := none, code := .none, closureTuple := .none, builtins := 0 }),⟨[]⟩⟩
def y889 (w : World) : Obj := ⟨(.type "code"),none,(.fields ⟨[(.str t490 1581),(.str t490 1582),(.str t178 1583),(.int 647 0),(.int 1 0),(.int 0 0),(.int 0 0),(.int 3 0),(.ref 884),(.bool true),(.int 370 0),(.ref 885),.none,(.ref 886),(.ref 887),(.ref 888),(.int 1585 0),(.int 647 0),(.str t178 1586)]⟩),⟨[]⟩⟩
def y890 (w : World) : Obj := ⟨(.type "function"),none,(.func { name := t490, qualname := t490, params := defArgs (top 153), body := .stmts (defBody (top 153)), scope := defScope (top 153), globals := 3, closure := [], defaults := .none, kwdefaults := .none, doc := .none, pyModule := (.str t535 1545), annotations := none, code := (.ref 889), closureTuple := .none, builtins := 0 }),⟨[]⟩⟩
def y891 (w : World) : Obj := ⟨(.type "tuple"),none,(.seq ⟨[]⟩ 0),⟨[]⟩⟩
def y892 (w : World) : Obj := ⟨.none,none,(.fields ⟨[]⟩),⟨[]⟩⟩
def y893 (w : World) : Obj := ⟨.none,none,(.func { name := t491, qualname := t491, params := defArgs (top 154), body := .stmts (defBody (top 154)), scope := defScope (top 154), globals := 0, closure := [], defaults := .none, kwdefaults := .none, doc := .none, pyModule := .none, annotations := none, code := .none, closureTuple := .none, builtins := 0 }),⟨[]⟩⟩
def y894 (w : World) : Obj := ⟨(.type "code"),none,(.fields ⟨[(.str t491 1588),(.str t491 1589),(.str t178 1590),(.int 649 0),(.int 1 0),(.int 0 0),(.int 0 0),(.int 3 0),(.ref 891),(.bool true),(.int 370 0),(.ref 892),.none,.none,.none,(.ref 893),(.int 1591 0),(.int 649 0),(.str t178 1592)]⟩),⟨[]⟩⟩
def y895 (w : World) : Obj := ⟨(.type "function"),none,(.func { name := t491, qualname := t491, params := defArgs (top 154), body := .stmts (defBody (top 154)), scope := defScope (top 154), globals := 3, closure := [], defaults := .none, kwdefaults := .none, doc := .none, pyModule := (.str t535 1545), annotations := none, code := (.ref 894), closureTuple := .none, builtins := 0 }),⟨[]⟩⟩
def y896 (w : World) : Obj := ⟨(.type "tuple"),none,(.seq ⟨[]⟩ 0),⟨[]⟩⟩
def y897 (w : World) : Obj := ⟨.none,none,(.fields ⟨[]⟩),⟨[]⟩⟩
def y898 (w : World) : Obj := ⟨(.type "tuple"),none,(.seq ⟨[(.str t534 1597),(.str t537 1598),(.str t395 1599),(.str t538 1600)]⟩ 0),⟨[]⟩⟩
def y899 (w : World) : Obj := ⟨(.type "tuple"),none,(.seq ⟨[]⟩ 0),⟨[]⟩⟩
def y900 (w : World) : Obj := ⟨.none,none,(.func { name := t492, qualname := t492, params := defArgs (top 155), body := .stmts (defBody (top 155)), scope := defScope (top 155), globals := 0, closure := [], defaults := .none, kwdefaults := .none, doc := .none, pyModule := .none, annotations := none, code := .none, closureTuple := .none, builtins := 0 }),⟨[]⟩⟩
def y901 (w : World) : Obj := ⟨(.type "code"),none,(.fields ⟨[(.str t492 1594),(.str t492 1595),(.str t178 1596),(.int 656 0),(.int 1 0),(.int 0 0),(.int 0 0),(.int 3 0),(.ref 896),(.bool true),(.int 370 0),(.ref 897),.none,(.ref 898),(.ref 899),(.ref 900),(.int 1601 0),(.int 656 0),(.str t178 1602)]⟩),⟨[]⟩⟩
def y902 (w : World) : Obj := ⟨(.type "function"),none,(.func { name := t492, qualname := t492, params := defArgs (top 155), body := .stmts (defBody (top 155)), scope := defScope (top 155), globals := 3, closure := [], defaults := .none, kwdefaults := .none, doc := .none, pyModule := (.str t535 1545), annotations := none, code := (.ref 901), closureTuple := .none, builtins := 0 }),⟨[]⟩⟩
def y903 (w : World) : Obj := ⟨(.type "tuple"),none,(.seq ⟨[]⟩ 0),⟨[]⟩⟩
def y904 (w : World) : Obj := ⟨.none,none,(.fields ⟨[]⟩),⟨[]⟩⟩
def y905 (w : World) : Obj := ⟨(.type "tuple"),none,(.seq ⟨[(.str t534 1607),(.str t443 1608),(.str t332 1609)]⟩ 0),⟨[]⟩⟩
def y906 (w : World) : Obj := ⟨(.type "tuple"),none,(.seq ⟨[]⟩ 0),⟨[]⟩⟩
def y907 (w : World) : Obj := ⟨.none,none,(.func { name := t493, qualname := t493, params := defArgs (top 156), body := .stmts (defBody (top 156)), scope := defScope (top 156), globals := 0, closure := [], defaults := .none, kwdefaults := .none, doc := .none, pyModule := .none, annotations := none, code := .none, closureTuple := .none, builtins := 0 }),⟨[]⟩⟩
def y908 (w : World) : Obj := ⟨(.type "code"),none,(.fields ⟨[(.str t493 1604),(.str t493 1605),(.str t178 1606),(.int 662 0),(.int 3 0),(.int 0 0),(.int 0 0),(.int 3 0),(.ref 903),(.bool true),(.int 370 0),(.ref 904),.none,(.ref 905),(.ref 906),(.ref 907),(.int 1610 0),(.int 662 0),(.str t178 1611)]⟩),⟨[]⟩⟩
def y909 (w : World) : Obj := ⟨(.type "function"),none,(.func { name := t493, qualname := t493, params := defArgs (top 156), body := .stmts (defBody (top 156)), scope := defScope (top 156), globals := 3, closure := [], defaults := .none, kwdefaults := .none, doc := .none, pyModule := (.str t535 1545), annotations := none, code := (.ref 908), closureTuple := .none, builtins := 0 }),⟨[]⟩⟩
def y910 (w : World) : Obj := ⟨(.type "tuple"),none,(.seq ⟨[]⟩ 0),⟨[]⟩⟩
def y911 (w : World) : Obj := ⟨.none,none,(.fields ⟨[]⟩),⟨[]⟩⟩
def y912 (w : World) : Obj := ⟨(.type "tuple"),none,(.seq ⟨[(.str t534 1616),(.str t443 1617),(.str t539 1618),(.str t540 1619),(.str t536 1620)]⟩ 0),⟨[]⟩⟩
def y913 (w : World) : Obj := ⟨(.type "tuple"),none,(.seq ⟨[]⟩ 0),⟨[]⟩⟩
def y914 (w : World) : Obj := ⟨.none,none,(.func { name := t494, qualname := t494, params := defArgs (top 157), body := .stmts (defBody (top 157)), scope := defScope (top 157), globals := 0, closure := [], defaults := .none, kwdefaults := .none, doc := .none, pyModule := .none, annotations := none, code := .none, closureTuple := .none, builtins := 0 }),⟨[]⟩⟩
def y915 (w : World) : Obj := ⟨(.type "code"),none,(.fields ⟨[(.str t494 1613),(.str t494 1614),(.str t178 1615),(.int 664 0),(.int 3 0),(.int 0 0),(.int 0 0),(.int 3 0),(.ref 910),(.bool true),(.int 370 0),(.ref 911),.none,(.ref 912),(.ref 913),(.ref 914),(.int 1621 0),(.int 664 0),(.str t178 1622)]⟩),⟨[]⟩⟩
def y916 (w : World) : Obj := ⟨(.type "function"),none,(.func { name := t494, qualname := t494, params := defArgs (top 157), body := .stmts (defBody (top 157)), scope := defScope (top 157), globals := 3, closure := [], defaults := .none, kwdefaults := .none, doc := .none, pyModule := (.str t535 1545), annotations := none, code := (.ref 915), closureTuple := .none, builtins := 0 }),⟨[]⟩⟩
def y917 (w : World) : Obj := ⟨(.type "tuple"),none,(.seq ⟨[]⟩ 0),⟨[]⟩⟩
def y918 (w : World) : Obj := ⟨.none,none,(.fields ⟨[]⟩),⟨[]⟩⟩
def y919 (w : World) : Obj := ⟨(.type "tuple"),none,(.seq ⟨[(.str t534 1627),(.str t443 1628),(.str t541 1629),(.str t539 1630),(.str t536 1631),(.str t542 1632),(.str t399 1633),(.str t400 1634)]⟩ 0),⟨[]⟩⟩
def y920 (w : World) : Obj := ⟨(.type "tuple"),none,(.seq ⟨[]⟩ 0),⟨[]⟩⟩
def y921 (w : World) : Obj := ⟨.none,none,(.func { name := t495, qualname := t495, params := defArgs (top 158), body := .stmts (defBody (top 158)), scope := defScope (top 158), globals := 0, closure := [], defaults := .none, kwdefaults := .none, doc := .none, pyModule := .none, annotations := none, code := .none, closureTuple := .none, builtins := 0 }),⟨[]⟩⟩
def y922 (w : World) : Obj := ⟨(.type "code"),none,(.fields ⟨[(.str t495 1624),(.str t495 1625),(.str t178 1626),(.int 672 0),(.int 2 0),(.int 0 0),(.int 0 0),(.int 3 0),(.ref 917),(.bool true),(.int 370 0),(.ref 918),.none,(.ref 919),(.ref 920),(.ref 921),(.int 1635 0),(.int 672 0),(.str t178 1636)]⟩),⟨[]⟩⟩
def y923 (w : World) : Obj := ⟨(.type "function"),none,(.func { name := t495, qualname := t495, params := defArgs (top 158), body := .stmts (defBody (top 158)), scope := defScope (top 158), globals := 3, closure := [], defaults := .none, kwdefaults := .none, doc := .none, pyModule := (.str t535 1545), annotations := none, code := (.ref 922), closureTuple := .none, builtins := 0 }),⟨[]⟩⟩
def y924 (w : World) : Obj := ⟨(.type "tuple"),none,(.seq ⟨[]⟩ 0),⟨[]⟩⟩
def y925 (w : World) : Obj := ⟨.none,none,(.fields ⟨[]⟩),⟨[]⟩⟩
def y926 (w : World) : Obj := ⟨(.type "tuple"),none,(.seq ⟨[(.str t534 1641),(.str t332 1642)]⟩ 0),⟨[]⟩⟩
def y927 (w : World) : Obj := ⟨(.type "tuple"),none,(.seq ⟨[]⟩ 0),⟨[]⟩⟩
def y928 (w : World) : Obj := ⟨.none,none,(.func { name := t496, qualname := t496, params := defArgs (top 159), body := .stmts (defBody (top 159)), scope := defScope (top 159), globals := 0, closure := [], defaults := .none, kwdefaults := .none, doc := .none, pyModule := .none, annotations := none, code := .none, closureTuple := .none, builtins := 0 }),⟨[]⟩⟩
def y929 (w : World) : Obj := ⟨(.type "code"),none,(.fields ⟨[(.str t496 1638),(.str t496 1639),(.str t178 1640),(.int 688 0),(.int 1 0),(.int 0 0),(.int 0 0),(.int 3 0),(.ref 924),(.bool true),(.int 370 0),(.ref 925),.none,(.ref 926),(.ref 927),(.ref 928),(.int 1643 0),(.int 688 0),(.str t178 1644)]⟩),⟨[]⟩⟩
def y930 (w : World) : Obj := ⟨(.type "function"),none,(.func { name := t496, qualname := t496, params := defArgs (top 159), body := .stmts (defBody (top 159)), scope := defScope (top 159), globals := 3, closure := [], defaults := .none, kwdefaults := .none, doc := .none, pyModule := (.str t535 1545), annotations := none, code := (.ref 929), closureTuple := .none, builtins := 0 }),⟨[]⟩⟩
def y931 (w : World) : Obj := ⟨(.type "tuple"),none,(.seq ⟨[]⟩ 0),⟨[]⟩⟩
def y932 (w : World) : Obj := ⟨.none,none,(.fields ⟨[]⟩),⟨[]⟩⟩
def y933 (w : World) : Obj := ⟨(.type "tuple"),none,(.seq ⟨[(.str t534 1649),(.str t332 1650)]⟩ 0),⟨[]⟩⟩
def y934 (w : World) : Obj := ⟨(.type "tuple"),none,(.seq ⟨[]⟩ 0),⟨[]⟩⟩
def y935 (w : World) : Obj := ⟨.none,none,(.func { name := t497, qualname := t497, params := defArgs (top 160), body := .stmts (defBody (top 160)), scope := defScope (top 160), globals := 0, closure := [], defaults := .none, kwdefaults := .none, doc := .none, pyModule := .none, annotations := none, code := .none, closureTuple := .none, builtins := 0 }),⟨[]⟩⟩
def y936 (w : World) : Obj := ⟨(.type "code"),none,(.fields ⟨[(.str t497 1646),(.str t497 1647),(.str t178 1648),(.int 691 0),(.int 1 0),(.int 0 0),(.int 0 0),(.int 3 0),(.ref 931),(.bool true),(.int 370 0),(.ref 932),.none,(.ref 933),(.ref 934),(.ref 935),(.int 1651 0),(.int 691 0),(.str t178 1652)]⟩),⟨[]⟩⟩
def y937 (w : World) : Obj := ⟨(.type "function"),none,(.func { name := t497, qualname := t497, params := defArgs (top 160), body := .stmts (defBody (top 160)), scope := defScope (top 160), globals := 3, closure := [], defaults := .none, kwdefaults := .none, doc := .none, pyModule := (.str t535 1545), annotations := none, code := (.ref 936), closureTuple := .none, builtins := 0 }),⟨[]⟩⟩
def y938 (w : World) : Obj := ⟨(.type "tuple"),none,(.seq ⟨[]⟩ 0),⟨[]⟩⟩
def y939 (w : World) : Obj := ⟨.none,none,(.fields ⟨[]⟩),⟨[]⟩⟩
def y940 (w : World) : Obj := ⟨(.type "tuple"),none,(.seq ⟨[(.str t534 1657),(.str t332 1658)]⟩ 0),⟨[]⟩⟩
def y941 (w : World) : Obj := ⟨(.type "tuple"),none,(.seq ⟨[]⟩ 0),⟨[]⟩⟩
def y942 (w : World) : Obj := ⟨.none,none,(.func { name := t498, qualname := t498, params := defArgs (top 161), body := .stmts (defBody (top 161)), scope := defScope (top 161), globals := 0, closure := [], defaults := .none, kwdefaults := .none, doc := .none, pyModule := .none, annotations := none, code := .none, closureTuple := .none, builtins := 0 }),⟨[]⟩⟩
def y943 (w : World) : Obj := ⟨(.type "code"),none,(.fields ⟨[(.str t498 1654),(.str t498 1655),(.str t178 1656),(.int 696 0),(.int 1 0),(.int 0 0),(.int 0 0),(.int 3 0),(.ref 938),(.bool true),(.int 370 0),(.ref 939),.none,(.ref 940),(.ref 941),(.ref 942),(.int 1659 0),(.int 696 0),(.str t178 1660)]⟩),⟨[]⟩⟩
def y944 (w : World) : Obj := ⟨(.type "function"),none,(.func { name := t498, qualname := t498, params := defArgs (top 161), body := .stmts (defBody (top 161)), scope := defScope (top 161), globals := 3, closure := [], defaults := .none, kwdefaults := .none, doc := .none, pyModule := (.str t535 1545), annotations := none, code := (.ref 943), closureTuple := .none, builtins := 0 }),⟨[]⟩⟩
def y945 (w : World) : Obj := ⟨(.type "tuple"),none,(.seq ⟨[]⟩ 0),⟨[]⟩⟩
def y946 (w : World) : Obj := ⟨.none,none,(.fields ⟨[]⟩),⟨[]⟩⟩
def y947 (w : World) : Obj := ⟨(.type "tuple"),none,(.seq ⟨[(.str t534 1665),(.str t332 1666)]⟩ 0),⟨[]⟩⟩
def y948 (w : World) : Obj := ⟨(.type "tuple"),none,(.seq ⟨[]⟩ 0),⟨[]⟩⟩
def y949 (w : World) : Obj := ⟨.none,none,(.func { name := t499, qualname := t499, params := defArgs (top 162), body := .stmts (defBody (top 162)), scope := defScope (top 162), globals := 0, closure := [], defaults := .none, kwdefaults := .none, doc := .none, pyModule := .none, annotations := none, code := .none, closureTuple := .none, builtins := 0 }),⟨[]⟩⟩
def y950 (w : World) : Obj := ⟨(.type "code"),none,(.fields ⟨[(.str t499 1662),(.str t499 1663),(.str t178 1664),(.int 701 0),(.int 1 0),(.int 0 0),(.int 0 0),(.int 3 0),(.ref 945),(.bool true),(.int 370 0),(.ref 946),.none,(.ref 947),(.ref 948),(.ref 949),(.int 1667 0),(.int 701 0),(.str t178 1668)]⟩),⟨[]⟩⟩
def y951 (w : World) : Obj := ⟨(.type "function"),none,(.func { name := t499, qualname := t499, params := defArgs (top 162), body := .stmts (defBody (top 162)), scope := defScope (top 162), globals := 3, closure := [], defaults := .none, kwdefaults := .none, doc := .none, pyModule := (.str t535 1545), annotations := none, code := (.ref 950), closureTuple := .none, builtins := 0 }),⟨[]⟩⟩
def y952 (w : World) : Obj := ⟨(.type "tuple"),none,(.seq ⟨[]⟩ 0),⟨[]⟩⟩
def y953 (w : World) : Obj := ⟨.none,none,(.fields ⟨[]⟩),⟨[]⟩⟩
def y954 (w : World) : Obj := ⟨(.type "tuple"),none,(.seq ⟨[(.str t543 1675),(.str t544 1676),(.str t545 1677)]⟩ 0),⟨[]⟩⟩
def y955 (w : World) : Obj := ⟨(.type "tuple"),none,(.seq ⟨[]⟩ 0),⟨[]⟩⟩
def y956 (w : World) : Obj := ⟨.none,none,(.func { name := t500, qualname := t500, params := defArgs (top 164), body := .stmts (defBody (top 164)), scope := defScope (top 164), globals := 0, closure := [], defaults := .none, kwdefaults := .none, doc := .none, pyModule := .none, annotations := none, code := .none, closureTuple := .none, builtins := 0 }),⟨[]⟩⟩
def y957 (w : World) : Obj := ⟨(.type "code"),none,(.fields ⟨[(.str t500 1672),(.str t500 1673),(.str t178 1674),(.int 707 0),(.int 2 0),(.int 0 0),(.int 0 0),(.int 3 0),(.ref 952),(.bool true),(.int 370 0),(.ref 953),.none,(.ref 954),(.ref 955),(.ref 956),(.int 1678 0),(.int 707 0),(.str t178 1679)]⟩),⟨[]⟩⟩
def y958 (w : World) : Obj := ⟨(.type "function"),none,(.func { name := t500, qualname := t500, params := defArgs (top 164), body := .stmts (defBody (top 164)), scope := defScope (top 164), globals := 3, closure := [], defaults := .none, kwdefaults := .none, doc := .none, pyModule := (.str t546 1670), annotations := none, code := (.ref 957), closureTuple := .none, builtins := 0 }),⟨[]⟩⟩
def y959 (w : World) : Obj := ⟨(.type "tuple"),none,(.seq ⟨[]⟩ 0),⟨[]⟩⟩
def y960 (w : World) : Obj := ⟨.none,none,(.fields ⟨[]⟩),⟨[]⟩⟩
def y961 (w : World) : Obj := ⟨(.type "tuple"),none,(.seq ⟨[(.str t399 1684),(.str t400 1685)]⟩ 0),⟨[]⟩⟩
def y962 (w : World) : Obj := ⟨(.type "tuple"),none,(.seq ⟨[]⟩ 0),⟨[]⟩⟩
def y963 (w : World) : Obj := ⟨.none,none,(.func { name := t501, qualname := t501, params := defArgs (top 165), body := .stmts (defBody (top 165)), scope := defScope (top 165), globals := 0, closure := [], defaults := .none, kwdefaults := .none, doc := .none, pyModule := .none, annotations := none, code := .none, closureTuple := .none, builtins := 0 }),⟨[]⟩⟩
def y964 (w : World) : Obj := ⟨(.type "code"),none,(.fields ⟨[(.str t501 1681),(.str t501 1682),(.str t178 1683),(.int 710 0),(.int 2 0),(.int 0 0),(.int 0 0),(.int 3 0),(.ref 959),(.bool true),(.int 370 0),(.ref 960),.none,(.ref 961),(.ref 962),(.ref 963),(.int 1686 0),(.int 710 0),(.str t178 1687)]⟩),⟨[]⟩⟩
def y965 (w : World) : Obj := ⟨(.type "function"),none,(.func { name := t501, qualname := t501, params := defArgs (top 165), body := .stmts (defBody (top 165)), scope := defScope (top 165), globals := 3, closure := [], defaults := .none, kwdefaults := .none, doc := .none, pyModule := (.str t546 1670), annotations := none, code := (.ref 964), closureTuple := .none, builtins := 0 }),⟨[]⟩⟩
def y966 (w : World) : Obj := ⟨(.type "tuple"),none,(.seq ⟨[(.str t547 1691)]⟩ 0),⟨[]⟩⟩
def y967 (w : World) : Obj := ⟨(.type "tuple"),none,(.seq ⟨[]⟩ 0),⟨[]⟩⟩
def y968 (w : World) : Obj := ⟨.none,none,(.fields ⟨[]⟩),⟨[]⟩⟩
def y969 (w : World) : Obj := ⟨.none,none,(.func { name := t503, qualname := t503, params := defArgs (top 168), body := .stmts (defBody (top 168)), scope := defScope (top 168), globals := 0, closure := [], defaults := .none, kwdefaults := .none, doc := .none, pyModule := .none, annotations := none, code := .none, closureTuple := .none, builtins := 0 }),⟨[]⟩⟩
def y970 (w : World) : Obj := ⟨(.type "code"),none,(.fields ⟨[(.str t503 1693),(.str t503 1694),(.str t178 1695),(.int 714 0),(.int 4 0),(.int 0 0),(.int 0 0),(.int 3 0),(.ref 967),(.bool true),(.int 370 0),(.ref 968),.none,.none,.none,(.ref 969),(.int 1696 0),(.int 714 0),(.str t178 1697)]⟩),⟨[]⟩⟩
def y971 (w : World) : Obj := ⟨(.type "function"),none,(.func { name := t503, qualname := t503, params := defArgs (top 168), body := .stmts (defBody (top 168)), scope := defScope (top 168), globals := 3, closure := [], defaults := .none, kwdefaults := .none, doc := .none, pyModule := (.str t548 1689), annotations := none, code := (.ref 970), closureTuple := .none, builtins := 0 }),⟨[]⟩⟩
def y972 (w : World) : Obj := ⟨(.type "tuple"),none,(.seq ⟨[]⟩ 0),⟨[]⟩⟩
def y973 (w : World) : Obj := ⟨.none,none,(.fields ⟨[]⟩),⟨[]⟩⟩
def y974 (w : World) : Obj := ⟨(.type "tuple"),none,(.seq ⟨[(.str t549 1702),(.str t440 1703),(.str t543 1704),(.str t544 1705),(.str t332 1706),(.str t333 1707),(.str t550 1708)]⟩ 0),⟨[]⟩⟩
def y975 (w : World) : Obj := ⟨(.type "tuple"),none,(.seq ⟨[]⟩ 0),⟨[]⟩⟩
def y976 (w : World) : Obj := ⟨.none,none,(.func { name := t504, qualname := t504, params := defArgs (top 169), body := .stmts (defBody (top 169)), scope := defScope (top 169), globals := 0, closure := [], defaults := .none, kwdefaults := .none, doc := .none, pyModule := .none, annotations := none, code := .none, closureTuple := .none, builtins := 0 }),⟨[]⟩⟩
def y977 (w : World) : Obj := ⟨(.type "code"),none,(.fields ⟨[(.str t504 1699),(.str t504 1700),(.str t178 1701),(.int 717 0),(.int 2 0),(.int 0 0),(.int 0 0),(.int 3 0),(.ref 972),(.bool true),(.int 370 0),(.ref 973),.none,(.ref 974),(.ref 975),(.ref 976),(.int 1709 0),(.int 717 0),(.str t178 1710)]⟩),⟨[]⟩⟩
def y978 (w : World) : Obj := ⟨(.type "function"),none,(.func { name := t504, qualname := t504, params := defArgs (top 169), body := .stmts (defBody (top 169)), scope := defScope (top 169), globals := 3, closure := [], defaults := .none, kwdefaults := .none, doc := .none, pyModule := (.str t548 1689), annotations := none, code := (.ref 977), closureTuple := .none, builtins := 0 }),⟨[]⟩⟩
def y979 (w : World) : Obj := ⟨(.type "tuple"),none,(.seq ⟨[]⟩ 0),⟨[]⟩⟩
def y980 (w : World) : Obj := ⟨.none,none,(.fields ⟨[]⟩),⟨[]⟩⟩
def y981 (w : World) : Obj := ⟨(.type "tuple"),none,(.seq ⟨[(.str t399 1715),(.str t400 1716)]⟩ 0),⟨[]⟩⟩
def y982 (w : World) : Obj := ⟨(.type "tuple"),none,(.seq ⟨[]⟩ 0),⟨[]⟩⟩
def y983 (w : World) : Obj := ⟨.none,none,(.func { name := t505, qualname := t505, params := defArgs (top 170), body := .stmts (defBody (top 170)), scope := defScope (top 170), globals := 0, closure := [], defaults := .none, kwdefaults := .none, doc := .none, pyModule := .none, annotations := none, code := .none, closureTuple := .none, builtins := 0 }),⟨[]⟩⟩
def y984 (w : World) : Obj := ⟨(.type "code"),none,(.fields ⟨[(.str t505 1712),(.str t505 1713),(.str t178 1714),(.int 726 0),(.int 2 0),(.int 0 0),(.int 0 0),(.int 3 0),(.ref 979),(.bool true),(.int 370 0),(.ref 980),.none,(.ref 981),(.ref 982),(.ref 983),(.int 1717 0),(.int 726 0),(.str t178 1718)]⟩),⟨[]⟩⟩
def y985 (w : World) : Obj := ⟨(.type "function"),none,(.func { name := t505, qualname := t505, params := defArgs (top 170), body := .stmts (defBody (top 170)), scope := defScope (top 170), globals := 3, closure := [], defaults := .none, kwdefaults := .none, doc := .none, pyModule := (.str t548 1689), annotations := none, code := (.ref 984), closureTuple := .none, builtins := 0 }),⟨[]⟩⟩
def y986 (w : World) : Obj := ⟨(.type "tuple"),none,(.seq ⟨[]⟩ 0),⟨[]⟩⟩
def y987 (w : World) : Obj := ⟨.none,none,(.fields ⟨[]⟩),⟨[]⟩⟩
def y988 (w : World) : Obj := ⟨(.type "tuple"),none,(.seq ⟨[(.str t328 1723),(.str t543 1724),(.str t544 1725),(.str t551 1726),(.str t405 1727),(.str t437 1728),(.str t440 1729),(.str t552 1730),(.str t549 1731),(.str t441 1732)]⟩ 0),⟨[]⟩⟩
def y989 (w : World) : Obj := ⟨(.type "tuple"),none,(.seq ⟨[]⟩ 0),⟨[]⟩⟩
def y990 (w : World) : Obj := ⟨.none,none,(.func { name := t506, qualname := t506, params := defArgs (top 171), body := .stmts (defBody (top 171)), scope := defScope (top 171), globals := 0, closure := [], defaults := .none, kwdefaults := .none, doc := .none, pyModule := .none, annotations := none, code := .none, closureTuple := .none, builtins := 0 }),⟨[]⟩⟩
def y991 (w : World) : Obj := ⟨(.type "code"),none,(.fields ⟨[(.str t506 1720),(.str t506 1721),(.str t178 1722),(.int 732 0),(.int 3 0),(.int 0 0),(.int 0 0),(.int 3 0),(.ref 986),(.bool true),(.int 370 0),(.ref 987),.none,(.ref 988),(.ref 989),(.ref 990),(.int 1733 0),(.int 732 0),(.str t178 1734)]⟩),⟨[]⟩⟩
def y992 (w : World) : Obj := ⟨(.type "function"),none,(.func { name := t506, qualname := t506, params := defArgs (top 171), body := .stmts (defBody (top 171)), scope := defScope (top 171), globals := 3, closure := [], defaults := .none, kwdefaults := .none, doc := .none, pyModule := (.str t548 1689), annotations := none, code := (.ref 991), closureTuple := .none, builtins := 0 }),⟨[]⟩⟩
def y993 (w : World) : Obj := ⟨(.type "tuple"),none,(.seq ⟨[]⟩ 0),⟨[]⟩⟩
def y994 (w : World) : Obj := ⟨.none,none,(.fields ⟨[]⟩),⟨[]⟩⟩
def y995 (w : World) : Obj := ⟨(.type "tuple"),none,(.seq ⟨[(.str t328 1739),(.str t543 1740),(.str t544 1741)]⟩ 0),⟨[]⟩⟩
def y996 (w : World) : Obj := ⟨(.type "tuple"),none,(.seq ⟨[]⟩ 0),⟨[]⟩⟩
def y997 (w : World) : Obj := ⟨.none,none,(.func { name := t393, qualname := t393, params := defArgs (top 172), body := .stmts (defBody (top 172)), scope := defScope (top 172), globals := 0, closure := [], defaults := .none, kwdefaults := .none, doc := .none, pyModule := .none, annotations := none, code := .none, closureTuple := .none, builtins := 0 }),⟨[]⟩⟩
def y998 (w : World) : Obj := ⟨(.type "code"),none,(.fields ⟨[(.str t393 1736),(.str t393 1737),(.str t178 1738),(.int 743 0),(.int 3 0),(.int 0 0),(.int 0 0),(.int 3 0),(.ref 993),(.bool true),(.int 370 0),(.ref 994),.none,(.ref 995),(.ref 996),(.ref 997),(.int 1742 0),(.int 743 0),(.str t178 1743)]⟩),⟨[]⟩⟩
def y999 (w : World) : Obj := ⟨(.type "function"),none,(.func { name := t393, qualname := t393, params := defArgs (top 172), body := .stmts (defBody (top 172)), scope := defScope (top 172), globals := 3, closure := [], defaults := .none, kwdefaults := .none, doc := .none, pyModule := (.str t548 1689), annotations := none, code := (.ref 998), closureTuple := .none, builtins := 0 }),⟨[]⟩⟩
def y1000 (w : World) : Obj := ⟨(.type "tuple"),none,(.seq ⟨[]⟩ 0),⟨[]⟩⟩
def y1001 (w : World) : Obj := ⟨.none,none,(.fields ⟨[]⟩),⟨[]⟩⟩
def y1002 (w : World) : Obj := ⟨(.type "tuple"),none,(.seq ⟨[(.str t328 1749),(.str t543 1750),(.str t544 1751)]⟩ 0),⟨[]⟩⟩
def y1003 (w : World) : Obj := ⟨(.type "tuple"),none,(.seq ⟨[]⟩ 0),⟨[]⟩⟩
def y1004 (w : World) : Obj := ⟨.none,none,(.func { name := t508, qualname := t508, params := defArgs (top 174), body := .stmts (defBody (top 174)), scope := defScope (top 174), globals := 0, closure := [], defaults := .none, kwdefaults := .none, doc := .none, pyModule := .none, annotations := none, code := .none, closureTuple := .none, builtins := 0 }),⟨[]⟩⟩
def y1005 (w : World) : Obj := ⟨(.type "code"),none,(.fields ⟨[(.str t508 1746),(.str t508 1747),(.str t178 1748),(.int 748 0),(.int 3 0),(.int 0 0),(.int 0 0),(.int 3 0),(.ref 1000),(.bool true),(.int 370 0),(.ref 1001),.none,(.ref 1002),(.ref 1003),(.ref 1004),(.int 1752 0),(.int 748 0),(.str t178 1753)]⟩),⟨[]⟩⟩
def y1006 (w : World) : Obj := ⟨(.type "function"),none,(.func { name := t508, qualname := t508, params := defArgs (top 174), body := .stmts (defBody (top 174)), scope := defScope (top 174), globals := 3, closure := [], defaults := .none, kwdefaults := .none, doc := .none, pyModule := (.str t548 1689), annotations := none, code := (.ref 1005), closureTuple := .none, builtins := 0 }),⟨[]⟩⟩
def y1007 (w : World) : Obj := ⟨(.type "tuple"),none,(.seq ⟨[]⟩ 0),⟨[]⟩⟩
def y1008 (w : World) : Obj := ⟨.none,none,(.fields ⟨[]⟩),⟨[]⟩⟩
def y1009 (w : World) : Obj := ⟨(.type "tuple"),none,(.seq ⟨[(.str t539 1760),(.str t422 1761),(.str t553 1762),(.str t401 1763),(.str t433 1764)]⟩ 0),⟨[]⟩⟩
def y1010 (w : World) : Obj := ⟨(.type "tuple"),none,(.seq ⟨[(.str t539 1765),(.str t422 1766),(.str t324 1767)]⟩ 0),⟨[]⟩⟩
def y1011 (w : World) : Obj := ⟨.none,none,(.func { name := t509, qualname := t509, params := defArgs (top 176), body := .stmts (defBody (top 176)), scope := defScope (top 176), globals := 0, closure := [], defaults := .none, kwdefaults := .none, doc := .none, pyModule := .none, annotations := none, code := .none, closureTuple := .none, builtins := 0 }),⟨[]⟩⟩
def y1012 (w : World) : Obj := ⟨(.type "code"),none,(.fields ⟨[(.str t509 1757),(.str t509 1758),(.str t178 1759),(.int 752 0),(.int 3 0),(.int 0 0),(.int 0 0),(.int 3 0),(.ref 1007),(.bool true),(.int 370 0),(.ref 1008),.none,(.ref 1009),(.ref 1010),(.ref 1011),(.int 1768 0),(.int 752 0),(.str t178 1769)]⟩),⟨[]⟩⟩
def y1013 (w : World) : Obj := ⟨(.type "function"),none,(.func { name := t509, qualname := t509, params := defArgs (top 176), body := .stmts (defBody (top 176)), scope := defScope (top 176), globals := 3, closure := [], defaults := .none, kwdefaults := .none, doc := .none, pyModule := (.str t511 1755), annotations := none, code := (.ref 1012), closureTuple := .none, builtins := 0 }),⟨[]⟩⟩
def y1014 (w : World) : Obj := ⟨(.type "tuple"),none,(.seq ⟨[]⟩ 0),⟨[]⟩⟩
def y1015 (w : World) : Obj := ⟨.none,none,(.fields ⟨[]⟩),⟨[]⟩⟩
def y1016 (w : World) : Obj := ⟨(.type "tuple"),none,(.seq ⟨[(.str t554 1774),(.str t555 1775),(.str t401 1776)]⟩ 0),⟨[]⟩⟩
def y1017 (w : World) : Obj := ⟨(.type "tuple"),none,(.seq ⟨[(.str t554 1777),(.str t555 1778)]⟩ 0),⟨[]⟩⟩
def y1018 (w : World) : Obj := ⟨.none,none,(.func { name := t510, qualname := t510, params := defArgs (top 177), body := .stmts (defBody (top 177)), scope := defScope (top 177), globals := 0, closure := [], defaults := .none, kwdefaults := .none, doc := .none, pyModule := .none, annotations := none, code := .none, closureTuple := .none, builtins := 0 }),⟨[]⟩⟩
def y1019 (w : World) : Obj := ⟨(.type "code"),none,(.fields ⟨[(.str t510 1771),(.str t510 1772),(.str t178 1773),(.int 766 0),(.int 2 0),(.int 0 0),(.int 0 0),(.int 3 0),(.ref 1014),(.bool true),(.int 370 0),(.ref 1015),.none,(.ref 1016),(.ref 1017),(.ref 1018),(.int 1779 0),(.int 766 0),(.str t178 1780)]⟩),⟨[]⟩⟩
def y1020 (w : World) : Obj := ⟨(.type "function"),none,(.func { name := t510, qualname := t510, params := defArgs (top 177), body := .stmts (defBody (top 177)), scope := defScope (top 177), globals := 3, closure := [], defaults := .none, kwdefaults := .none, doc := .none, pyModule := (.str t511 1755), annotations := none, code := (.ref 1019), closureTuple := .none, builtins := 0 }),⟨[]⟩⟩
def tree4 (w : World) : PySem.W.BT := (.node (y0 w) (.node (y1 w) (.node (y3_4 w) (.node (y7 w) (.node (y15 w) (.node (y31 w) (.node (y63 w) (.node (y127 w) (.node (y255 w) (.node (y511 w) .nil .nil) (.node (y767 w) .nil .nil)) (.node (y383 w) (.node (y639 w) .nil .nil) (.node (y895 w) .nil .nil))) (.node (y191 w) (.node (y319 w) (.node (y575 w) .nil .nil) (.node (y831 w) .nil .nil)) (.node (y447 w) (.node (y703 w) .nil .nil) (.node (y959 w) .nil .nil)))) (.node (y95 w) (.node (y159 w) (.node (y287 w) (.node (y543 w) .nil .nil) (.node (y799 w) .nil .nil)) (.node (y415 w) (.node (y671 w) .nil .nil) (.node (y927 w) .nil .nil))) (.node (y223 w) (.node (y351 w) (.node (y607 w) .nil .nil) (.node (y863 w) .nil .nil)) (.node (y479 w) (.node (y735 w) .nil .nil) (.node (y991 w) .nil .nil))))) (.node (y47 w) (.node (y79 w) (.node (y143 w) (.node (y271 w) (.node (y527 w) .nil .nil) (.node (y783 w) .nil .nil)) (.node (y399 w) (.node (y655 w) .nil .nil) (.node (y911 w) .nil .nil))) (.node (y207 w) (.node (y335 w) (.node (y591 w) .nil .nil) (.node (y847 w) .nil .nil)) (.node (y463 w) (.node (y719 w) .nil .nil) (.node (y975 w) .nil .nil)))) (.node (y111 w) (.node (y175 w) (.node (y303 w) (.node (y559 w) .nil .nil) (.node (y815 w) .nil .nil)) (.node (y431 w) (.node (y687 w) .nil .nil) (.node (y943 w) .nil .nil))) (.node (y239 w) (.node (y367 w) (.node (y623 w) .nil .nil) (.node (y879 w) .nil .nil)) (.node (y495 w) (.node (y751 w) .nil .nil) (.node (y1007 w) .nil .nil)))))) (.node (y23 w) (.node (y39 w) (.node (y71 w) (.node (y135 w) (.node (y263 w) (.node (y519 w) .nil .nil) (.node (y775 w) .nil .nil)) (.node (y391 w) (.node (y647 w) .nil .nil) (.node (y903 w) .nil .nil))) (.node (y199 w) (.node (y327 w) (.node (y583 w) .nil .nil) (.node (y839 w) .nil .nil)) (.node (y455 w) (.node (y711 w) .nil .nil) (.node (y967 w) .nil .nil)))) (.node (y103 w) (.node (y167 w) (.node (y295 w) (.node (y551 w) .nil .nil) (.node (y807 w) .nil .nil)) (.node (y423 w) (.node (y679 w) .nil .nil) (.node (y935 w) .nil .nil))) (.node (y231 w) (.node (y359 w) (.node (y615 w) .nil .nil) (.node (y871 w) .nil .nil)) (.node (y487 w) (.node (y743 w) .nil .nil) (.node (y999 w) .nil .nil))))) (.node (y55 w) (.node (y87 w) (.node (y151 w) (.node (y279 w) (.node (y535 w) .nil .nil) (.node (y791 w) .nil .nil)) (.node (y407 w) (.node (y663 w) .nil .nil) (.node (y919 w) .nil .nil))) (.node (y215 w) (.node (y343 w) (.node (y599 w) .nil .nil) (.node (y855 w) .nil .nil)) (.node (y471 w) (.node (y727 w) .nil .nil) (.node (y983 w) .nil .nil)))) (.node (y119 w) (.node (y183 w) (.node (y311 w) (.node (y567 w) .nil .nil) (.node (y823 w) .nil .nil)) (.node (y439 w) (.node (y695 w) .nil .nil) (.node (y951 w) .nil .nil))) (.node (y247 w) (.node (y375 w) (.node (y631 w) .nil .nil) (.node (y887 w) .nil .nil)) (.node (y503 w) (.node (y759 w) .nil .nil) (.node (y1015 w) .nil .nil))))))) (.node (y11 w) (.node (y19 w) (.node (y35 w) (.node (y67 w) (.node (y131 w) (.node (y259 w) (.node (y515 w) .nil .nil) (.node (y771 w) .nil .nil)) (.node (y387 w) (.node (y643 w) .nil .nil) (.node (y899 w) .nil .nil))) (.node (y195 w) (.node (y323 w) (.node (y579 w) .nil .nil) (.node (y835 w) .nil .nil)) (.node (y451 w) (.node (y707 w) .nil .nil) (.node (y963 w) .nil .nil)))) (.node (y99 w) (.node (y163 w) (.node (y291 w) (.node (y547 w) .nil .nil) (.node (y803 w) .nil .nil)) (.node (y419 w) (.node (y675 w) .nil .nil) (.node (y931 w) .nil .nil))) (.node (y227 w) (.node (y355 w) (.node (y611 w) .nil .nil) (.node (y867 w) .nil .nil)) (.node (y483 w) (.node (y739 w) .nil .nil) (.node (y995 w) .nil .nil))))) (.node (y51 w) (.node (y83 w) (.node (y147 w) (.node (y275 w) (.node (y531 w) .nil .nil) (.node (y787 w) .nil .nil)) (.node (y403 w) (.node (y659 w) .nil .nil) (.node (y915 w) .nil .nil))) (.node (y211 w) (.node (y339 w) (.node (y595 w) .nil .nil) (.node (y851 w) .nil .nil)) (.node (y467 w) (.node (y723 w) .nil .nil) (.node (y979 w) .nil .nil)))) (.node (y115 w) (.node (y179 w) (.node (y307 w) (.node (y563 w) .nil .nil) (.node (y819 w) .nil .nil)) (.node (y435 w) (.node (y691 w) .nil .nil) (.node (y947 w) .nil .nil))) (.node (y243 w) (.node (y371 w) (.node (y627 w) .nil .nil) (.node (y883 w) .nil .nil)) (.node (y499 w) (.node (y755 w) .nil .nil) (.node (y1011 w) .nil .nil)))))) (.node (y27 w) (.node (y43 w) (.node (y75 w) (.node (y139 w) (.node (y267 w) (.node (y523 w) .nil .nil) (.node (y779 w) .nil .nil)) (.node (y395 w) (.node (y651 w) .nil .nil) (.node (y907 w) .nil .nil))) (.node (y203 w) (.node (y331 w) (.node (y587 w) .nil .nil) (.node (y843 w) .nil .nil)) (.node (y459 w) (.node (y715 w) .nil .nil) (.node (y971 w) .nil .nil)))) (.node (y107 w) (.node (y171 w) (.node (y299 w) (.node (y555 w) .nil .nil) (.node (y811 w) .nil .nil)) (.node (y427 w) (.node (y683 w) .nil .nil) (.node (y939 w) .nil .nil))) (.node (y235 w) (.node (y363 w) (.node (y619 w) .nil .nil) (.node (y875 w) .nil .nil)) (.node (y491 w) (.node (y747 w) .nil .nil) (.node (y1003 w) .nil .nil))))) (.node (y59_1 w) (.node (y91 w) (.node (y155 w) (.node (y283 w) (.node (y539 w) .nil .nil) (.node (y795 w) .nil .nil)) (.node (y411 w) (.node (y667 w) .nil .nil) (.node (y923 w) .nil .nil))) (.node (y219 w) (.node (y347 w) (.node (y603 w) .nil .nil) (.node (y859 w) .nil .nil)) (.node (y475 w) (.node (y731 w) .nil .nil) (.node (y987 w) .nil .nil)))) (.node (y123 w) (.node (y187 w) (.node (y315 w) (.node (y571 w) .nil .nil) (.node (y827 w) .nil .nil)) (.node (y443 w) (.node (y699 w) .nil .nil) (.node (y955 w) .nil .nil))) (.node (y251 w) (.node (y379 w) (.node (y635 w) .nil .nil) (.node (y891 w) .nil .nil)) (.node (y507 w) (.node (y763 w) .nil .nil) (.node (y1019 w) .nil .nil)))))))) (.node (y5 w) (.node (y9 w) (.node (y17 w) (.node (y33 w) (.node (y65 w) (.node (y129 w) (.node (y257 w) (.node (y513 w) .nil .nil) (.node (y769 w) .nil .nil)) (.node (y385 w) (.node (y641 w) .nil .nil) (.node (y897 w) .nil .nil))) (.node (y193 w) (.node (y321 w) (.node (y577 w) .nil .nil) (.node (y833 w) .nil .nil)) (.node (y449 w) (.node (y705 w) .nil .nil) (.node (y961 w) .nil .nil)))) (.node (y97 w) (.node (y161 w) (.node (y289 w) (.node (y545 w) .nil .nil) (.node (y801 w) .nil .nil)) (.node (y417 w) (.node (y673 w) .nil .nil) (.node (y929 w) .nil .nil))) (.node (y225 w) (.node (y353 w) (.node (y609 w) .nil .nil) (.node (y865 w) .nil .nil)) (.node (y481 w) (.node (y737 w) .nil .nil) (.node (y993 w) .nil .nil))))) (.node (y49 w) (.node (y81 w) (.node (y145 w) (.node (y273 w) (.node (y529 w) .nil .nil) (.node (y785 w) .nil .nil)) (.node (y401 w) (.node (y657 w) .nil .nil) (.node (y913 w) .nil .nil))) (.node (y209 w) (.node (y337 w) (.node (y593 w) .nil .nil) (.node (y849 w) .nil .nil)) (.node (y465 w) (.node (y721 w) .nil .nil) (.node (y977 w) .nil .nil)))) (.node (y113 w) (.node (y177 w) (.node (y305 w) (.node (y561 w) .nil .nil) (.node (y817 w) .nil .nil)) (.node (y433 w) (.node (y689 w) .nil .nil) (.node (y945 w) .nil .nil))) (.node (y241 w) (.node (y369 w) (.node (y625 w) .nil .nil) (.node (y881 w) .nil .nil)) (.node (y497 w) (.node (y753 w) .nil .nil) (.node (y1009 w) .nil .nil)))))) (.node (y25 w) (.node (y41 w) (.node (y73 w) (.node (y137 w) (.node (y265 w) (.node (y521 w) .nil .nil) (.node (y777 w) .nil .nil)) (.node (y393 w) (.node (y649 w) .nil .nil) (.node (y905 w) .nil .nil))) (.node (y201 w) (.node (y329 w) (.node (y585 w) .nil .nil) (.node (y841 w) .nil .nil)) (.node (y457 w) (.node (y713 w) .nil .nil) (.node (y969 w) .nil .nil)))) (.node (y105 w) (.node (y169 w) (.node (y297 w) (.node (y553 w) .nil .nil) (.node (y809 w) .nil .nil)) (.node (y425 w) (.node (y681 w) .nil .nil) (.node (y937 w) .nil .nil))) (.node (y233 w) (.node (y361 w) (.node (y617 w) .nil .nil) (.node (y873 w) .nil .nil)) (.node (y489 w) (.node (y745 w) .nil .nil) (.node (y1001 w) .nil .nil))))) (.node (y57 w) (.node (y89 w) (.node (y153 w) (.node (y281 w) (.node (y537 w) .nil .nil) (.node (y793 w) .nil .nil)) (.node (y409 w) (.node (y665 w) .nil .nil) (.node (y921 w) .nil .nil))) (.node (y217 w) (.node (y345 w) (.node (y601 w) .nil .nil) (.node (y857 w) .nil .nil)) (.node (y473 w) (.node (y729 w) .nil .nil) (.node (y985 w) .nil .nil)))) (.node (y121 w) (.node (y185 w) (.node (y313 w) (.node (y569 w) .nil .nil) (.node (y825 w) .nil .nil)) (.node (y441 w) (.node (y697 w) .nil .nil) (.node (y953 w) .nil .nil))) (.node (y249 w) (.node (y377 w) (.node (y633 w) .nil .nil) (.node (y889 w) .nil .nil)) (.node (y505 w) (.node (y761 w) .nil .nil) (.node (y1017 w) .nil .nil))))))) (.node (y13 w) (.node (y21 w) (.node (y37 w) (.node (y69 w) (.node (y133 w) (.node (y261 w) (.node (y517 w) .nil .nil) (.node (y773 w) .nil .nil)) (.node (y389 w) (.node (y645 w) .nil .nil) (.node (y901 w) .nil .nil))) (.node (y197 w) (.node (y325 w) (.node (y581 w) .nil .nil) (.node (y837 w) .nil .nil)) (.node (y453 w) (.node (y709 w) .nil .nil) (.node (y965 w) .nil .nil)))) (.node (y101 w) (.node (y165 w) (.node (y293 w) (.node (y549 w) .nil .nil) (.node (y805 w) .nil .nil)) (.node (y421 w) (.node (y677 w) .nil .nil) (.node (y933 w) .nil .nil))) (.node (y229 w) (.node (y357 w) (.node (y613 w) .nil .nil) (.node (y869 w) .nil .nil)) (.node (y485 w) (.node (y741 w) .nil .nil) (.node (y997 w) .nil .nil))))) (.node (y53 w) (.node (y85 w) (.node (y149 w) (.node (y277 w) (.node (y533 w) .nil .nil) (.node (y789 w) .nil .nil)) (.node (y405 w) (.node (y661 w) .nil .nil) (.node (y917 w) .nil .nil))) (.node (y213 w) (.node (y341 w) (.node (y597 w) .nil .nil) (.node (y853 w) .nil .nil)) (.node (y469 w) (.node (y725 w) .nil .nil) (.node (y981 w) .nil .nil)))) (.node (y117 w) (.node (y181 w) (.node (y309 w) (.node (y565 w) .nil .nil) (.node (y821 w) .nil .nil)) (.node (y437 w) (.node (y693 w) .nil .nil) (.node (y949 w) .nil .nil))) (.node (y245 w) (.node (y373 w) (.node (y629 w) .nil .nil) (.node (y885 w) .nil .nil)) (.node (y501 w) (.node (y757 w) .nil .nil) (.node (y1013 w) .nil .nil)))))) (.node (y29 w) (.node (y45 w) (.node (y77 w) (.node (y141 w) (.node (y269 w) (.node (y525 w) .nil .nil) (.node (y781 w) .nil .nil)) (.node (y397 w) (.node (y653 w) .nil .nil) (.node (y909 w) .nil .nil))) (.node (y205 w) (.node (y333 w) (.node (y589 w) .nil .nil) (.node (y845 w) .nil .nil)) (.node (y461 w) (.node (y717 w) .nil .nil) (.node (y973 w) .nil .nil)))) (.node (y109 w) (.node (y173 w) (.node (y301 w) (.node (y557 w) .nil .nil) (.node (y813 w) .nil .nil)) (.node (y429 w) (.node (y685 w) .nil .nil) (.node (y941 w) .nil .nil))) (.node (y237 w) (.node (y365 w) (.node (y621 w) .nil .nil) (.node (y877 w) .nil .nil)) (.node (y493 w) (.node (y749 w) .nil .nil) (.node (y1005 w) .nil .nil))))) (.node (y61 w) (.node (y93 w) (.node (y157 w) (.node (y285 w) (.node (y541 w) .nil .nil) (.node (y797 w) .nil .nil)) (.node (y413 w) (.node (y669 w) .nil .nil) (.node (y925 w) .nil .nil))) (.node (y221 w) (.node (y349 w) (.node (y605 w) .nil .nil) (.node (y861 w) .nil .nil)) (.node (y477 w) (.node (y733 w) .nil .nil) (.node (y989 w) .nil .nil)))) (.node (y125 w) (.node (y189 w) (.node (y317 w) (.node (y573 w) .nil .nil) (.node (y829 w) .nil .nil)) (.node (y445 w) (.node (y701 w) .nil .nil) (.node (y957 w) .nil .nil))) (.node (y253 w) (.node (y381 w) (.node (y637 w) .nil .nil) (.node (y893 w) .nil .nil)) (.node (y509 w) (.node (y765 w) .nil .nil) .nil)))))))) (.node (y2 w) (.node (y4 w) (.node (y8 w) (.node (y16 w) (.node (y32 w) (.node (y64 w) (.node (y128 w) (.node (y256 w) (.node (y512 w) .nil .nil) (.node (y768 w) .nil .nil)) (.node (y384 w) (.node (y640 w) .nil .nil) (.node (y896 w) .nil .nil))) (.node (y192 w) (.node (y320 w) (.node (y576 w) .nil .nil) (.node (y832 w) .nil .nil)) (.node (y448 w) (.node (y704 w) .nil .nil) (.node (y960 w) .nil .nil)))) (.node (y96 w) (.node (y160 w) (.node (y288 w) (.node (y544 w) .nil .nil) (.node (y800 w) .nil .nil)) (.node (y416 w) (.node (y672 w) .nil .nil) (.node (y928 w) .nil .nil))) (.node (y224 w) (.node (y352 w) (.node (y608 w) .nil .nil) (.node (y864 w) .nil .nil)) (.node (y480 w) (.node (y736 w) .nil .nil) (.node (y992 w) .nil .nil))))) (.node (y48 w) (.node (y80 w) (.node (y144 w) (.node (y272 w) (.node (y528 w) .nil .nil) (.node (y784 w) .nil .nil)) (.node (y400 w) (.node (y656 w) .nil .nil) (.node (y912 w) .nil .nil))) (.node (y208 w) (.node (y336 w) (.node (y592 w) .nil .nil) (.node (y848 w) .nil .nil)) (.node (y464 w) (.node (y720 w) .nil .nil) (.node (y976 w) .nil .nil)))) (.node (y112 w) (.node (y176 w) (.node (y304 w) (.node (y560 w) .nil .nil) (.node (y816 w) .nil .nil)) (.node (y432 w) (.node (y688 w) .nil .nil) (.node (y944 w) .nil .nil))) (.node (y240 w) (.node (y368 w) (.node (y624 w) .nil .nil) (.node (y880 w) .nil .nil)) (.node (y496 w) (.node (y752 w) .nil .nil) (.node (y1008 w) .nil .nil)))))) (.node (y24 w) (.node (y40_3 w) (.node (y72 w) (.node (y136 w) (.node (y264 w) (.node (y520 w) .nil .nil) (.node (y776 w) .nil .nil)) (.node (y392 w) (.node (y648 w) .nil .nil) (.node (y904 w) .nil .nil))) (.node (y200 w) (.node (y328 w) (.node (y584 w) .nil .nil) (.node (y840 w) .nil .nil)) (.node (y456 w) (.node (y712 w) .nil .nil) (.node (y968 w) .nil .nil)))) (.node (y104 w) (.node (y168 w) (.node (y296 w) (.node (y552 w) .nil .nil) (.node (y808 w) .nil .nil)) (.node (y424 w) (.node (y680 w) .nil .nil) (.node (y936 w) .nil .nil))) (.node (y232 w) (.node (y360 w) (.node (y616 w) .nil .nil) (.node (y872 w) .nil .nil)) (.node (y488 w) (.node (y744 w) .nil .nil) (.node (y1000 w) .nil .nil))))) (.node (y56 w) (.node (y88 w) (.node (y152 w) (.node (y280 w) (.node (y536 w) .nil .nil) (.node (y792 w) .nil .nil)) (.node (y408 w) (.node (y664 w) .nil .nil) (.node (y920 w) .nil .nil))) (.node (y216 w) (.node (y344 w) (.node (y600 w) .nil .nil) (.node (y856 w) .nil .nil)) (.node (y472 w) (.node (y728 w) .nil .nil) (.node (y984 w) .nil .nil)))) (.node (y120 w) (.node (y184 w) (.node (y312 w) (.node (y568 w) .nil .nil) (.node (y824 w) .nil .nil)) (.node (y440 w) (.node (y696 w) .nil .nil) (.node (y952 w) .nil .nil))) (.node (y248 w) (.node (y376 w) (.node (y632 w) .nil .nil) (.node (y888 w) .nil .nil)) (.node (y504 w) (.node (y760 w) .nil .nil) (.node (y1016 w) .nil .nil))))))) (.node (y12 w) (.node (y20 w) (.node (y36 w) (.node (y68 w) (.node (y132 w) (.node (y260 w) (.node (y516 w) .nil .nil) (.node (y772 w) .nil .nil)) (.node (y388 w) (.node (y644 w) .nil .nil) (.node (y900 w) .nil .nil))) (.node (y196 w) (.node (y324 w) (.node (y580 w) .nil .nil) (.node (y836 w) .nil .nil)) (.node (y452 w) (.node (y708 w) .nil .nil) (.node (y964 w) .nil .nil)))) (.node (y100 w) (.node (y164 w) (.node (y292 w) (.node (y548 w) .nil .nil) (.node (y804 w) .nil .nil)) (.node (y420 w) (.node (y676 w) .nil .nil) (.node (y932 w) .nil .nil))) (.node (y228 w) (.node (y356 w) (.node (y612 w) .nil .nil) (.node (y868 w) .nil .nil)) (.node (y484 w) (.node (y740 w) .nil .nil) (.node (y996 w) .nil .nil))))) (.node (y52 w) (.node (y84 w) (.node (y148 w) (.node (y276 w) (.node (y532 w) .nil .nil) (.node (y788 w) .nil .nil)) (.node (y404 w) (.node (y660 w) .nil .nil) (.node (y916 w) .nil .nil))) (.node (y212 w) (.node (y340 w) (.node (y596 w) .nil .nil) (.node (y852 w) .nil .nil)) (.node (y468 w) (.node (y724 w) .nil .nil) (.node (y980 w) .nil .nil)))) (.node (y116 w) (.node (y180 w) (.node (y308 w) (.node (y564 w) .nil .nil) (.node (y820 w) .nil .nil)) (.node (y436 w) (.node (y692 w) .nil .nil) (.node (y948 w) .nil .nil))) (.node (y244 w) (.node (y372 w) (.node (y628 w) .nil .nil) (.node (y884 w) .nil .nil)) (.node (y500 w) (.node (y756 w) .nil .nil) (.node (y1012 w) .nil .nil)))))) (.node (y28 w) (.node (y44 w) (.node (y76 w) (.node (y140 w) (.node (y268 w) (.node (y524 w) .nil .nil) (.node (y780 w) .nil .nil)) (.node (y396 w) (.node (y652 w) .nil .nil) (.node (y908 w) .nil .nil))) (.node (y204 w) (.node (y332 w) (.node (y588 w) .nil .nil) (.node (y844 w) .nil .nil)) (.node (y460 w) (.node (y716 w) .nil .nil) (.node (y972 w) .nil .nil)))) (.node (y108 w) (.node (y172 w) (.node (y300 w) (.node (y556 w) .nil .nil) (.node (y812 w) .nil .nil)) (.node (y428 w) (.node (y684 w) .nil .nil) (.node (y940 w) .nil .nil))) (.node (y236 w) (.node (y364 w) (.node (y620 w) .nil .nil) (.node (y876 w) .nil .nil)) (.node (y492 w) (.node (y748 w) .nil .nil) (.node (y1004 w) .nil .nil))))) (.node (y60 w) (.node (y92 w) (.node (y156 w) (.node (y284 w) (.node (y540 w) .nil .nil) (.node (y796 w) .nil .nil)) (.node (y412 w) (.node (y668 w) .nil .nil) (.node (y924 w) .nil .nil))) (.node (y220 w) (.node (y348 w) (.node (y604 w) .nil .nil) (.node (y860 w) .nil .nil)) (.node (y476 w) (.node (y732 w) .nil .nil) (.node (y988 w) .nil .nil)))) (.node (y124 w) (.node (y188 w) (.node (y316 w) (.node (y572 w) .nil .nil) (.node (y828 w) .nil .nil)) (.node (y444 w) (.node (y700 w) .nil .nil) (.node (y956 w) .nil .nil))) (.node (y252 w) (.node (y380 w) (.node (y636 w) .nil .nil) (.node (y892 w) .nil .nil)) (.node (y508 w) (.node (y764 w) .nil .nil) (.node (y1020 w) .nil .nil)))))))) (.node (y6 w) (.node (y10 w) (.node (y18 w) (.node (y34 w) (.node (y66 w) (.node (y130 w) (.node (y258 w) (.node (y514 w) .nil .nil) (.node (y770 w) .nil .nil)) (.node (y386 w) (.node (y642 w) .nil .nil) (.node (y898 w) .nil .nil))) (.node (y194 w) (.node (y322 w) (.node (y578 w) .nil .nil) (.node (y834 w) .nil .nil)) (.node (y450 w) (.node (y706 w) .nil .nil) (.node (y962 w) .nil .nil)))) (.node (y98 w) (.node (y162 w) (.node (y290 w) (.node (y546 w) .nil .nil) (.node (y802 w) .nil .nil)) (.node (y418 w) (.node (y674 w) .nil .nil) (.node (y930 w) .nil .nil))) (.node (y226 w) (.node (y354 w) (.node (y610 w) .nil .nil) (.node (y866 w) .nil .nil)) (.node (y482 w) (.node (y738 w) .nil .nil) (.node (y994 w) .nil .nil))))) (.node (y50 w) (.node (y82 w) (.node (y146 w) (.node (y274 w) (.node (y530 w) .nil .nil) (.node (y786 w) .nil .nil)) (.node (y402 w) (.node (y658 w) .nil .nil) (.node (y914 w) .nil .nil))) (.node (y210 w) (.node (y338 w) (.node (y594 w) .nil .nil) (.node (y850 w) .nil .nil)) (.node (y466 w) (.node (y722 w) .nil .nil) (.node (y978 w) .nil .nil)))) (.node (y114 w) (.node (y178 w) (.node (y306 w) (.node (y562 w) .nil .nil) (.node (y818 w) .nil .nil)) (.node (y434 w) (.node (y690 w) .nil .nil) (.node (y946 w) .nil .nil))) (.node (y242 w) (.node (y370 w) (.node (y626 w) .nil .nil) (.node (y882 w) .nil .nil)) (.node (y498 w) (.node (y754 w) .nil .nil) (.node (y1010 w) .nil .nil)))))) (.node (y26 w) (.node (y42 w) (.node (y74 w) (.node (y138 w) (.node (y266 w) (.node (y522 w) .nil .nil) (.node (y778 w) .nil .nil)) (.node (y394 w) (.node (y650 w) .nil .nil) (.node (y906 w) .nil .nil))) (.node (y202 w) (.node (y330 w) (.node (y586 w) .nil .nil) (.node (y842 w) .nil .nil)) (.node (y458 w) (.node (y714 w) .nil .nil) (.node (y970 w) .nil .nil)))) (.node (y106 w) (.node (y170 w) (.node (y298 w) (.node (y554 w) .nil .nil) (.node (y810 w) .nil .nil)) (.node (y426 w) (.node (y682 w) .nil .nil) (.node (y938 w) .nil .nil))) (.node (y234 w) (.node (y362 w) (.node (y618 w) .nil .nil) (.node (y874 w) .nil .nil)) (.node (y490 w) (.node (y746 w) .nil .nil) (.node (y1002 w) .nil .nil))))) (.node (y58 w) (.node (y90 w) (.node (y154 w) (.node (y282 w) (.node (y538 w) .nil .nil) (.node (y794 w) .nil .nil)) (.node (y410 w) (.node (y666 w) .nil .nil) (.node (y922 w) .nil .nil))) (.node (y218 w) (.node (y346 w) (.node (y602 w) .nil .nil) (.node (y858 w) .nil .nil)) (.node (y474 w) (.node (y730 w) .nil .nil) (.node (y986 w) .nil .nil)))) (.node (y122 w) (.node (y186 w) (.node (y314 w) (.node (y570 w) .nil .nil) (.node (y826 w) .nil .nil)) (.node (y442 w) (.node (y698 w) .nil .nil) (.node (y954 w) .nil .nil))) (.node (y250 w) (.node (y378 w) (.node (y634 w) .nil .nil) (.node (y890 w) .nil .nil)) (.node (y506 w) (.node (y762 w) .nil .nil) (.node (y1018 w) .nil .nil))))))) (.node (y14 w) (.node (y22 w) (.node (y38 w) (.node (y70 w) (.node (y134 w) (.node (y262 w) (.node (y518 w) .nil .nil) (.node (y774 w) .nil .nil)) (.node (y390 w) (.node (y646 w) .nil .nil) (.node (y902 w) .nil .nil))) (.node (y198 w) (.node (y326 w) (.node (y582 w) .nil .nil) (.node (y838 w) .nil .nil)) (.node (y454 w) (.node (y710 w) .nil .nil) (.node (y966 w) .nil .nil)))) (.node (y102 w) (.node (y166 w) (.node (y294 w) (.node (y550 w) .nil .nil) (.node (y806 w) .nil .nil)) (.node (y422 w) (.node (y678 w) .nil .nil) (.node (y934 w) .nil .nil))) (.node (y230 w) (.node (y358 w) (.node (y614 w) .nil .nil) (.node (y870 w) .nil .nil)) (.node (y486 w) (.node (y742 w) .nil .nil) (.node (y998 w) .nil .nil))))) (.node (y54 w) (.node (y86 w) (.node (y150 w) (.node (y278 w) (.node (y534 w) .nil .nil) (.node (y790 w) .nil .nil)) (.node (y406 w) (.node (y662 w) .nil .nil) (.node (y918 w) .nil .nil))) (.node (y214 w) (.node (y342 w) (.node (y598 w) .nil .nil) (.node (y854 w) .nil .nil)) (.node (y470 w) (.node (y726 w) .nil .nil) (.node (y982 w) .nil .nil)))) (.node (y118 w) (.node (y182 w) (.node (y310 w) (.node (y566 w) .nil .nil) (.node (y822 w) .nil .nil)) (.node (y438 w) (.node (y694 w) .nil .nil) (.node (y950 w) .nil .nil))) (.node (y246 w) (.node (y374 w) (.node (y630 w) .nil .nil) (.node (y886 w) .nil .nil)) (.node (y502 w) (.node (y758 w) .nil .nil) (.node (y1014 w) .nil .nil)))))) (.node (y30 w) (.node (y46 w) (.node (y78 w) (.node (y142 w) (.node (y270 w) (.node (y526 w) .nil .nil) (.node (y782 w) .nil .nil)) (.node (y398 w) (.node (y654 w) .nil .nil) (.node (y910 w) .nil .nil))) (.node (y206 w) (.node (y334 w) (.node (y590 w) .nil .nil) (.node (y846 w) .nil .nil)) (.node (y462 w) (.node (y718 w) .nil .nil) (.node (y974 w) .nil .nil)))) (.node (y110 w) (.node (y174 w) (.node (y302 w) (.node (y558 w) .nil .nil) (.node (y814 w) .nil .nil)) (.node (y430 w) (.node (y686 w) .nil .nil) (.node (y942 w) .nil .nil))) (.node (y238 w) (.node (y366 w) (.node (y622 w) .nil .nil) (.node (y878 w) .nil .nil)) (.node (y494 w) (.node (y750 w) .nil .nil) (.node (y1006 w) .nil .nil))))) (.node (y62 w) (.node (y94 w) (.node (y158 w) (.node (y286 w) (.node (y542 w) .nil .nil) (.node (y798 w) .nil .nil)) (.node (y414 w) (.node (y670 w) .nil .nil) (.node (y926 w) .nil .nil))) (.node (y222 w) (.node (y350 w) (.node (y606 w) .nil .nil) (.node (y862 w) .nil .nil)) (.node (y478 w) (.node (y734 w) .nil .nil) (.node (y990 w) .nil .nil)))) (.node (y126 w) (.node (y190 w) (.node (y318 w) (.node (y574 w) .nil .nil) (.node (y830 w) .nil .nil)) (.node (y446 w) (.node (y702 w) .nil .nil) (.node (y958 w) .nil .nil))) (.node (y254 w) (.node (y382 w) (.node (y638 w) .nil .nil) (.node (y894 w) .nil .nil)) (.node (y510 w) (.node (y766 w) .nil .nil) .nil)))))))))
def st4 (w : World) : PySem.W.SharedT := ⟨tree4 w, 1021, life0, #[], ⟨0,0,0,0⟩, 1782, (start (opening R.prog)).1.os⟩
def y3_5 (w : World) : Obj := ⟨(.type "dict"),none,(.dict ⟨[⟨hs w t0,(.str t0 165),(.str t593 2099)⟩,⟨hs w t1,(.str t1 166),.none⟩,⟨hs w t2,(.str t2 167),.none⟩,⟨hs w t3,(.str t3 168),(.builtin "__main__.__loader__#opaque")⟩,⟨hs w t4,(.str t4 169),.none⟩,⟨hs w t173,(.str t173 170),(.ref 6)⟩,⟨hs w t174,(.str t174 171),(.ref 4)⟩,⟨hs w t175,(.str t175 173),(.str t178 172)⟩,⟨hs w t176,(.str t176 174),.none⟩,⟨hs w t177,(.str t177 369),(.builtin "math.gcd")⟩,⟨hs w t284,(.str t284 404),(.ref 59)⟩,⟨hs w t285,(.str t285 420),(.ref 72)⟩,⟨hs w t286,(.str t286 436),(.ref 84)⟩,⟨hs w t287,(.str t287 452),(.ref 96)⟩,⟨hs w t288,(.str t288 468),(.ref 108)⟩,⟨hs w t289,(.str t289 484),(.ref 120)⟩,⟨hs w t290,(.str t290 500),(.ref 132)⟩,⟨hs w t291,(.str t291 516),(.ref 144)⟩,⟨hs w t292,(.str t292 532),(.ref 156)⟩,⟨hs w t298,(.str t298 548),(.ref 168)⟩,⟨hs w t299,(.str t299 564),(.ref 180)⟩,⟨hs w t300,(.str t300 580),(.ref 192)⟩,⟨hs w t301,(.str t301 596),(.ref 204)⟩,⟨hs w t302,(.str t302 612),(.ref 216)⟩,⟨hs w t303,(.str t303 628),(.ref 228)⟩,⟨hs w t304,(.str t304 644),(.ref 240)⟩,⟨hs w t305,(.str t305 653),(.ref 249)⟩,⟨hs w t306,(.str t306 660),(.ref 256)⟩,⟨hs w t307,(.str t307 669),(.ref 263)⟩,⟨hs w t308,(.str t308 677),(.ref 270)⟩,⟨hs w t309,(.str t309 685),(.ref 277)⟩,⟨hs w t310,(.str t310 693),(.ref 284)⟩,⟨hs w t311,(.str t311 704),(.ref 291)⟩,⟨hs w t312,(.str t312 715),(.ref 298)⟩,⟨hs w t313,(.str t313 722),(.ref 305)⟩,⟨hs w t314,(.str t314 730),(.ref 312)⟩,⟨hs w t315,(.str t315 738),(.ref 319)⟩,⟨hs w t316,(.str t316 750),(.ref 326)⟩,⟨hs w t317,(.str t317 756),(.ref 331)⟩,⟨hs w t335,(.str t335 762),(.ref 336)⟩,⟨hs w t336,(.str t336 770),(.ref 343)⟩,⟨hs w t337,(.str t337 774),(.int 400 773)⟩,⟨hs w t338,(.str t338 781),(.ref 350)⟩,⟨hs w t339,(.str t339 789),(.ref 357)⟩,⟨hs w t340,(.str t340 797),(.ref 362)⟩,⟨hs w t341,(.str t341 803),(.ref 367)⟩,⟨hs w t342,(.str t342 811),(.ref 374)⟩,⟨hs w t343,(.str t343 818),(.ref 381)⟩,⟨hs w t344,(.str t344 836),(.ref 388)⟩,⟨hs w t345,(.str t345 842),(.ref 393)⟩,⟨hs w t346,(.str t346 853),(.ref 400)⟩,⟨hs w t347,(.str t347 859),(.ref 405)⟩,⟨hs w t348,(.str t348 865),(.ref 410)⟩,⟨hs w t349,(.str t349 874),(.ref 417)⟩,⟨hs w t350,(.str t350 880),(.ref 422)⟩,⟨hs w t351,(.str t351 886),(.ref 427)⟩,⟨hs w t352,(.str t352 892),(.ref 432)⟩,⟨hs w t353,(.str t353 902),(.ref 439)⟩,⟨hs w t354,(.str t354 908),(.ref 444)⟩,⟨hs w t355,(.str t355 919),(.ref 451)⟩,⟨hs w t356,(.str t356 927),(.ref 456)⟩,⟨hs w t357,(.str t357 938),(.ref 463)⟩,⟨hs w t358,(.str t358 949),(.ref 470)⟩,⟨hs w t359,(.str t359 961),(.ref 477)⟩,⟨hs w t360,(.str t360 972),(.ref 484)⟩,⟨hs w t361,(.str t361 983),(.ref 491)⟩,⟨hs w t362,(.str t362 989),(.ref 496)⟩,⟨hs w t363,(.str t363 997),(.ref 503)⟩,⟨hs w t364,(.str t364 1010),(.ref 510)⟩,⟨hs w t365,(.str t365 1016),(.ref 515)⟩,⟨hs w t366,(.str t366 1022),(.ref 520)⟩,⟨hs w t367,(.str t367 1040),(.ref 527)⟩,⟨hs w t368,(.str t368 1053),(.ref 534)⟩,⟨hs w t369,(.str t369 1068),(.ref 541)⟩,⟨hs w t370,(.str t370 1076),(.ref 548)⟩,⟨hs w t371,(.str t371 1084),(.ref 553)⟩,⟨hs w t372,(.str t372 1090),(.ref 558)⟩,⟨hs w t373,(.str t373 1096),(.ref 563)⟩,⟨hs w t374,(.str t374 1102),(.ref 568)⟩,⟨hs w t375,(.str t375 1116),(.ref 575)⟩,⟨hs w t376,(.str t376 1122),(.ref 580)⟩,⟨hs w t377,(.str t377 1128),(.ref 585)⟩,⟨hs w t378,(.str t378 1134),(.ref 590)⟩,⟨hs w t379,(.str t379 1140),(.ref 595)⟩,⟨hs w t380,(.str t380 1156),(.ref 602)⟩,⟨hs w t381,(.str t381 1162),(.ref 607)⟩,⟨hs w t382,(.str t382 1168),(.ref 612)⟩,⟨hs w t383,(.str t383 1174),(.ref 617)⟩,⟨hs w t384,(.str t384 1187),(.ref 624)⟩,⟨hs w t385,(.str t385 1202),(.ref 631)⟩,⟨hs w t386,(.str t386 1208),(.ref 636)⟩,⟨hs w t387,(.str t387 1214),(.ref 641)⟩,⟨hs w t388,(.str t388 1230),(.ref 648)⟩,⟨hs w t389,(.str t389 1244),(.ref 655)⟩,⟨hs w t390,(.str t390 1256),(.ref 662)⟩,⟨hs w t391,(.str t391 1267),(.ref 669)⟩,⟨hs w t392,(.str t392 1277),(.ref 676)⟩,⟨hs w t393,(.str t393 1288),(.ref 999)⟩,⟨hs w t448,(.str t448 1289),(.ref 683)⟩,⟨hs w t449,(.str t449 1296),(.ref 689)⟩,⟨hs w t450,(.str t450 1307),(.ref 1075)⟩,⟨hs w t451,(.str t451 1308),(.ref 696)⟩,⟨hs w t452,(.str t452 1317),(.ref 704)⟩,⟨hs w t453,(.str t453 1327),(.ref 712)⟩,⟨hs w t454,(.str t454 1335),(.ref 717)⟩,⟨hs w t455,(.str t455 1345),(.ref 725)⟩,⟨hs w t456,(.str t456 1353),(.ref 730)⟩,⟨hs w t457,(.str t457 1361),(.ref 737)⟩,⟨hs w t458,(.str t458 1367),(.ref 742)⟩,⟨hs w t459,(.str t459 1376),(.ref 749)⟩,⟨hs w t460,(.str t460 1382),(.ref 754)⟩,⟨hs w t461,(.str t461 1388),(.ref 759)⟩,⟨hs w t462,(.str t462 1407),(.ref 766)⟩,⟨hs w t463,(.str t463 1419),(.ref 773)⟩,⟨hs w t464,(.str t464 1425),(.ref 778)⟩,⟨hs w t465,(.str t465 1439),(.ref 785)⟩,⟨hs w t466,(.str t466 1447),(.ref 792)⟩,⟨hs w t467,(.str t467 1453),(.ref 793)⟩,⟨hs w t468,(.str t468 1456),(.ref 794)⟩,⟨hs w t469,(.str t469 1459),(.ref 795)⟩,⟨hs w t470,(.str t470 1466),(.ref 802)⟩,⟨hs w t471,(.str t471 1473),(.ref 809)⟩,⟨hs w t472,(.str t472 1480),(.ref 816)⟩,⟨hs w t473,(.str t473 1487),(.ref 823)⟩,⟨hs w t474,(.str t474 1494),(.ref 830)⟩,⟨hs w t475,(.str t475 1500),(.ref 835)⟩,⟨hs w t476,(.str t476 1509),(.ref 842)⟩,⟨hs w t477,(.str t477 1513),(.str t512 1512)⟩,⟨hs w t478,(.str t478 1515),(.str t513 1514)⟩,⟨hs w t479,(.str t479 1517),(.str t514 1516)⟩,⟨hs w t480,(.str t480 1523),(.ref 847)⟩,⟨hs w t481,(.str t481 1538),(.ref 854)⟩,⟨hs w t482,(.str t482 1544),(.ref 859)⟩,⟨hs w t483,(.str t483 1548),(.str t515 1547)⟩,⟨hs w t484,(.str t484 1550),(.int 30 1549)⟩,⟨hs w t485,(.str t485 1552),(.int 60 1551)⟩,⟨hs w t486,(.str t486 1561),(.ref 866)⟩,⟨hs w t487,(.str t487 1567),(.ref 871)⟩,⟨hs w t488,(.str t488 1574),(.ref 878)⟩,⟨hs w t489,(.str t489 1580),(.ref 883)⟩,⟨hs w t490,(.str t490 1587),(.ref 890)⟩,⟨hs w t491,(.str t491 1593),(.ref 895)⟩,⟨hs w t492,(.str t492 1603),(.ref 902)⟩,⟨hs w t493,(.str t493 1612),(.ref 909)⟩,⟨hs w t494,(.str t494 1623),(.ref 916)⟩,⟨hs w t495,(.str t495 1637),(.ref 923)⟩,⟨hs w t496,(.str t496 1645),(.ref 930)⟩,⟨hs w t497,(.str t497 1653),(.ref 937)⟩,⟨hs w t498,(.str t498 1661),(.ref 944)⟩,⟨hs w t499,(.str t499 1669),(.ref 951)⟩,⟨hs w t500,(.str t500 1680),(.ref 958)⟩,⟨hs w t501,(.str t501 1688),(.ref 965)⟩,⟨hs w t502,(.str t502 1692),(.ref 966)⟩,⟨hs w t503,(.str t503 1698),(.ref 971)⟩,⟨hs w t504,(.str t504 1711),(.ref 978)⟩,⟨hs w t505,(.str t505 1719),(.ref 985)⟩,⟨hs w t506,(.str t506 1735),(.ref 992)⟩,⟨hs w t507,(.str t507 1745),(.ref 999)⟩,⟨hs w t508,(.str t508 1754),(.ref 1006)⟩,⟨hs w t509,(.str t509 1770),(.ref 1013)⟩,⟨hs w t510,(.str t510 1781),(.ref 1020)⟩,⟨hs w t556,(.str t556 1787),(.ref 1025)⟩,⟨hs w t557,(.str t557 1797),(.ref 1032)⟩,⟨hs w t558,(.str t558 1806),(.ref 1039)⟩,⟨hs w t559,(.str t559 1812),(.ref 1044)⟩,⟨hs w t560,(.str t560 1818),(.ref 1049)⟩,⟨hs w t561,(.str t561 1828),(.ref 1056)⟩,⟨hs w t562,(.str t562 1834),(.ref 1061)⟩,⟨hs w t563,(.str t563 1843),(.ref 1068)⟩,⟨hs w t564,(.str t564 1855),(.ref 1075)⟩,⟨hs w t565,(.str t565 1869),(.ref 1083)⟩,⟨hs w t566,(.str t566 1873),(.str t594 1872)⟩,⟨hs w t567,(.str t567 1875),(.int 8 1874)⟩,⟨hs w t568,(.str t568 1877),(.str t595 1876)⟩,⟨hs w t569,(.str t569 1880),(.ref 1084)⟩,⟨hs w t570,(.str t570 1906),(.ref 1085)⟩,⟨hs w t571,(.str t571 1913),(.ref 1101)⟩,⟨hs w t572,(.str t572 1920),(.ref 1108)⟩,⟨hs w t573,(.str t573 1928),(.ref 1115)⟩,⟨hs w t574,(.str t574 1936),(.ref 1122)⟩,⟨hs w t575,(.str t575 1943),(.ref 1129)⟩,⟨hs w t576,(.str t576 1949),(.ref 1134)⟩,⟨hs w t577,(.str t577 1956),(.ref 1141)⟩,⟨hs w t578,(.str t578 1963),(.ref 1148)⟩,⟨hs w t579,(.str t579 1973),(.ref 1155)⟩,⟨hs w t580,(.str t580 2098),(.ref 1249)⟩,⟨hs w t581,(.str t581 2106),(.ref 1258)⟩,⟨hs w t582,(.str t582 2114),(.ref 1265)⟩,⟨hs w t583,(.str t583 2130),(.ref 1272)⟩,⟨hs w t584,(.str t584 2143),(.ref 1279)⟩,⟨hs w t585,(.str t585 2155),(.ref 1286)⟩,⟨hs w t586,(.str t586 2161),(.ref 1291)⟩,⟨hs w t587,(.str t587 2170),(.ref 1298)⟩,⟨hs w t588,(.str t588 2176),(.ref 1305)⟩,⟨hs w t589,(.str t589 2190),(.ref 1312)⟩,⟨hs w t590,(.str t590 2201),(.ref 1319)⟩,⟨hs w t591,(.str t591 2215),(.ref 1326)⟩,⟨hs w t592,(.str t592 2221),(.ref 1331)⟩]⟩ 198),⟨[]⟩⟩
def y40_4 (w : World) : Obj := ⟨.none,none,(.fields ⟨[(.int 3 0),(.int 0 0),(.ref 48),(.int 7 0),(.int 0 0),(.ref 68),(.int 9 0),(.int 0 0),(.ref 80),(.int 11 0),(.int 0 0),(.ref 92),(.int 13 0),(.int 0 0),(.ref 104),(.int 15 0),(.int 0 0),(.ref 116),(.int 17 0),(.int 0 0),(.ref 128),(.int 19 0),(.int 0 0),(.ref 140),(.int 21 0),(.int 0 0),(.ref 152),(.int 23 0),(.int 0 0),(.ref 164),(.int 25 0),(.int 0 0),(.ref 176),(.int 27 0),(.int 0 0),(.ref 188),(.int 29 0),(.int 0 0),(.ref 200),(.int 31 0),(.int 0 0),(.ref 212),(.int 33 0),(.int 0 0),(.ref 224),(.int 35 0),(.int 0 0),(.ref 236),(.int 38 0),(.int 0 0),(.ref 248),(.int 40 0),(.int 0 0),(.ref 255),(.int 42 0),(.int 0 0),(.ref 262),(.int 44 0),(.int 0 0),(.ref 269),(.int 46 0),(.int 0 0),(.ref 276),(.int 48 0),(.int 0 0),(.ref 283),(.int 51 0),(.int 0 0),(.ref 290),(.int 55 0),(.int 0 0),(.ref 297),(.int 64 0),(.int 0 0),(.ref 304),(.int 67 0),(.int 0 0),(.ref 311),(.int 70 0),(.int 0 0),(.ref 318),(.int 72 0),(.int 0 0),(.ref 325),(.int 82 0),(.int 0 0),(.ref 330),(.int 95 0),(.int 0 0),(.ref 335),(.int 97 0),(.int 0 0),(.ref 342),(.int 101 0),(.int 0 0),(.ref 349),(.int 104 0),(.int 0 0),(.ref 356),(.int 108 0),(.int 0 0),(.ref 361),(.int 110 0),(.int 0 0),(.ref 366),(.int 112 0),(.int 0 0),(.ref 373),(.int 114 0),(.int 0 0),(.ref 380),(.int 117 0),(.int 0 0),(.ref 387),(.int 129 0),(.int 0 0),(.ref 392),(.int 144 0),(.int 0 0),(.ref 399),(.int 149 0),(.int 0 0),(.ref 404),(.int 151 0),(.int 0 0),(.ref 409),(.int 158 0),(.int 0 0),(.ref 416),(.int 160 0),(.int 0 0),(.ref 421),(.int 169 0),(.int 0 0),(.ref 426),(.int 177 0),(.int 0 0),(.ref 431),(.int 180 0),(.int 0 0),(.ref 438),(.int 185 0),(.int 0 0),(.ref 443),(.int 200 0),(.int 0 0),(.ref 450),(.int 206 0),(.int 0 0),(.ref 455),(.int 208 0),(.int 0 0),(.ref 462),(.int 213 0),(.int 0 0),(.ref 469),(.int 218 0),(.int 0 0),(.ref 476),(.int 226 0),(.int 0 0),(.ref 483),(.int 229 0),(.int 0 0),(.ref 490),(.int 233 0),(.int 0 0),(.ref 495),(.int 242 0),(.int 0 0),(.ref 502),(.int 245 0),(.int 0 0),(.ref 509),(.int 250 0),(.int 0 0),(.ref 514),(.int 256 0),(.int 0 0),(.ref 519),(.int 268 0),(.int 0 0),(.ref 526),(.int 275 0),(.int 0 0),(.ref 533),(.int 283 0),(.int 0 0),(.ref 540),(.int 298 0),(.int 0 0),(.ref 547),(.int 302 0),(.int 0 0),(.ref 552),(.int 304 0),(.int 0 0),(.ref 557),(.int 306 0),(.int 0 0),(.ref 562),(.int 322 0),(.int 0 0),(.ref 567),(.int 329 0),(.int 0 0),(.ref 574),(.int 334 0),(.int 0 0),(.ref 579),(.int 339 0),(.int 0 0),(.ref 584),(.int 342 0),(.int 0 0),(.ref 589),(.int 350 0),(.int 0 0),(.ref 594),(.int 353 0),(.int 0 0),(.ref 601),(.int 359 0),(.int 0 0),(.ref 606),(.int 367 0),(.int 0 0),(.ref 611),(.int 374 0),(.int 0 0),(.ref 616),(.int 381 0),(.int 0 0),(.ref 623),(.int 392 0),(.int 0 0),(.ref 630),(.int 403 0),(.int 0 0),(.ref 635),(.int 413 0),(.int 0 0),(.ref 640),(.int 431 0),(.int 0 0),(.ref 647),(.int 439 0),(.int 0 0),(.ref 654),(.int 448 0),(.int 0 0),(.ref 661),(.int 456 0),(.int 0 0),(.ref 668),(.int 460 0),(.int 0 0),(.ref 675),(.int 467 0),(.int 0 0),(.ref 682),(.int 474 0),(.int 0 0),(.ref 688),(.int 483 0),(.int 0 0),(.ref 695),(.int 488 0),(.int 0 0),(.ref 703),(.int 492 0),(.int 0 0),(.ref 711),(.int 496 0),(.int 0 0),(.ref 716),(.int 502 0),(.int 0 0),(.ref 724),(.int 509 0),(.int 0 0),(.ref 729),(.int 511 0),(.int 0 0),(.ref 736),(.int 515 0),(.int 0 0),(.ref 741),(.int 518 0),(.int 0 0),(.ref 748),(.int 520 0),(.int 0 0),(.ref 753),(.int 522 0),(.int 0 0),(.ref 758),(.int 528 0),(.int 0 0),(.ref 765),(.int 537 0),(.int 0 0),(.ref 772),(.int 545 0),(.int 0 0),(.ref 777),(.int 554 0),(.int 0 0),(.ref 784),(.int 566 0),(.int 0 0),(.ref 791),(.int 573 0),(.int 0 0),(.ref 801),(.int 579 0),(.int 0 0),(.ref 808),(.int 589 0),(.int 0 0),(.ref 815),(.int 592 0),(.int 0 0),(.ref 822),(.int 596 0),(.int 0 0),(.ref 829),(.int 598 0),(.int 0 0),(.ref 834),(.int 607 0),(.int 0 0),(.ref 841),(.int 613 0),(.int 0 0),(.ref 846),(.int 615 0),(.int 0 0),(.ref 853),(.int 621 0),(.int 0 0),(.ref 858),(.int 633 0),(.int 0 0),(.ref 865),(.int 639 0),(.int 0 0),(.ref 870),(.int 642 0),(.int 0 0),(.ref 877),(.int 644 0),(.int 0 0),(.ref 882),(.int 647 0),(.int 0 0),(.ref 889),(.int 649 0),(.int 0 0),(.ref 894),(.int 656 0),(.int 0 0),(.ref 901),(.int 662 0),(.int 0 0),(.ref 908),(.int 664 0),(.int 0 0),(.ref 915),(.int 672 0),(.int 0 0),(.ref 922),(.int 688 0),(.int 0 0),(.ref 929),(.int 691 0),(.int 0 0),(.ref 936),(.int 696 0),(.int 0 0),(.ref 943),(.int 701 0),(.int 0 0),(.ref 950),(.int 707 0),(.int 0 0),(.ref 957),(.int 710 0),(.int 0 0),(.ref 964),(.int 714 0),(.int 0 0),(.ref 970),(.int 717 0),(.int 0 0),(.ref 977),(.int 726 0),(.int 0 0),(.ref 984),(.int 732 0),(.int 0 0),(.ref 991),(.int 743 0),(.int 0 0),(.ref 998),(.int 748 0),(.int 0 0),(.ref 1005),(.int 752 0),(.int 0 0),(.ref 1012),(.int 766 0),(.int 0 0),(.ref 1019),(.int 772 0),(.int 0 0),(.ref 1024),(.int 777 0),(.int 0 0),(.ref 1031),(.int 781 0),(.int 0 0),(.ref 1038),(.int 784 0),(.int 0 0),(.ref 1043),(.int 786 0),(.int 0 0),(.ref 1048),(.int 790 0),(.int 0 0),(.ref 1055),(.int 796 0),(.int 0 0),(.ref 1060),(.int 808 0),(.int 0 0),(.ref 1067),(.int 811 0),(.int 0 0),(.ref 1074),(.int 815 0),(.int 0 0),(.ref 1082),(.int 829 0),(.int 0 0),(.ref 1100),(.int 831 0),(.int 0 0),(.ref 1107),(.int 835 0),(.int 0 0),(.ref 1114),(.int 840 0),(.int 0 0),(.ref 1121),(.int 846 0),(.int 0 0),(.ref 1128),(.int 850 0),(.int 0 0),(.ref 1133),(.int 864 0),(.int 0 0),(.ref 1140),(.int 868 0),(.int 0 0),(.ref 1147),(.int 874 0),(.int 0 0),(.ref 1154),(.int 893 0),(.int 0 0),(.ref 1161),(.int 965 0),(.int 0 0),(.ref 1257),(.int 968 0),(.int 0 0),(.ref 1264),(.int 973 0),(.int 0 0),(.ref 1271),(.int 990 0),(.int 0 0),(.ref 1278),(.int 998 0),(.int 0 0),(.ref 1285),(.int 1004 0),(.int 0 0),(.ref 1290),(.int 1015 0),(.int 0 0),(.ref 1297),(.int 1019 0),(.int 0 0),(.ref 1304),(.int 1021 0),(.int 0 0),(.ref 1311),(.int 1033 0),(.int 0 0),(.ref 1318),(.int 1039 0),(.int 0 0),(.ref 1325),(.int 1046 0),(.int 0 0),(.ref 1330)]⟩),⟨[]⟩⟩
def y1021 (w : World) : Obj := ⟨(.type "tuple"),none,(.seq ⟨[]⟩ 0),⟨[]⟩⟩
def y1022 (w : World) : Obj := ⟨.none,none,(.fields ⟨[]⟩),⟨[]⟩⟩
def y1023 (w : World) : Obj := ⟨.none,none,(.func { name := t556, qualname := t556, params := defArgs (top 178), body := .stmts (defBody (top 178)), scope := defScope (top 178), globals := 0, closure := [], defaults := .none, kwdefaults := .none, doc := .none, pyModule := .none, annotations := none, code := .none, closureTuple := .none, builtins := 0 }),⟨[]⟩⟩
def y1024 (w : World) : Obj := ⟨(.type "code"),none,(.fields ⟨[(.str t556 1782),(.str t556 1783),(.str t178 1784),(.int 772 0),(.int 1 0),(.int 0 0),(.int 0 0),(.int 3 0),(.ref 1021),(.bool true),(.int 370 0),(.ref 1022),.none,.none,.none,(.ref 1023),(.int 1785 0),(.int 772 0),(.str t178 1786)]⟩),⟨[]⟩⟩
def y1025 (w : World) : Obj := ⟨(.type "function"),none,(.func { name := t556, qualname := t556, params := defArgs (top 178), body := .stmts (defBody (top 178)), scope := defScope (top 178), globals := 3, closure := [], defaults := .none, kwdefaults := .none, doc := .none, pyModule := (.str t511 1755), annotations := none, code := (.ref 1024), closureTuple := .none, builtins := 0 }),⟨[]⟩⟩
def y1026 (w : World) : Obj := ⟨(.type "tuple"),none,(.seq ⟨[]⟩ 0),⟨[]⟩⟩
def y1027 (w : World) : Obj := ⟨.none,none,(.fields ⟨[]⟩),⟨[]⟩⟩
def y1028 (w : World) : Obj := ⟨(.type "tuple"),none,(.seq ⟨[(.str t324 1793),(.str t532 1794)]⟩ 0),⟨[]⟩⟩
def y1029 (w : World) : Obj := ⟨(.type "tuple"),none,(.seq ⟨[]⟩ 0),⟨[]⟩⟩
def y1030 (w : World) : Obj := ⟨.none,none,(.func { name := t557, qualname := t557, params := defArgs (top 180), body := .stmts (defBody (top 180)), scope := defScope (top 180), globals := 0, closure := [], defaults := .none, kwdefaults := .none, doc := .none, pyModule := .none, annotations := none, code := .none, closureTuple := .none, builtins := 0 }),⟨[]⟩⟩
def y1031 (w : World) : Obj := ⟨(.type "code"),none,(.fields ⟨[(.str t557 1790),(.str t557 1791),(.str t178 1792),(.int 777 0),(.int 2 0),(.int 0 0),(.int 0 0),(.int 3 0),(.ref 1026),(.bool true),(.int 370 0),(.ref 1027),.none,(.ref 1028),(.ref 1029),(.ref 1030),(.int 1795 0),(.int 777 0),(.str t178 1796)]⟩),⟨[]⟩⟩
def y1032 (w : World) : Obj := ⟨(.type "function"),none,(.func { name := t557, qualname := t557, params := defArgs (top 180), body := .stmts (defBody (top 180)), scope := defScope (top 180), globals := 3, closure := [], defaults := .none, kwdefaults := .none, doc := .none, pyModule := (.str t596 1788), annotations := none, code := (.ref 1031), closureTuple := .none, builtins := 0 }),⟨[]⟩⟩
def y1033 (w : World) : Obj := ⟨(.type "tuple"),none,(.seq ⟨[]⟩ 0),⟨[]⟩⟩
def y1034 (w : World) : Obj := ⟨.none,none,(.fields ⟨[]⟩),⟨[]⟩⟩
def y1035 (w : World) : Obj := ⟨(.type "tuple"),none,(.seq ⟨[(.str t324 1801),(.str t532 1802),(.str t395 1803)]⟩ 0),⟨[]⟩⟩
def y1036 (w : World) : Obj := ⟨(.type "tuple"),none,(.seq ⟨[]⟩ 0),⟨[]⟩⟩
def y1037 (w : World) : Obj := ⟨.none,none,(.func { name := t558, qualname := t558, params := defArgs (top 181), body := .stmts (defBody (top 181)), scope := defScope (top 181), globals := 0, closure := [], defaults := .none, kwdefaults := .none, doc := .none, pyModule := .none, annotations := none, code := .none, closureTuple := .none, builtins := 0 }),⟨[]⟩⟩
def y1038 (w : World) : Obj := ⟨(.type "code"),none,(.fields ⟨[(.str t558 1798),(.str t558 1799),(.str t178 1800),(.int 781 0),(.int 3 0),(.int 0 0),(.int 0 0),(.int 3 0),(.ref 1033),(.bool true),(.int 370 0),(.ref 1034),.none,(.ref 1035),(.ref 1036),(.ref 1037),(.int 1804 0),(.int 781 0),(.str t178 1805)]⟩),⟨[]⟩⟩
def y1039 (w : World) : Obj := ⟨(.type "function"),none,(.func { name := t558, qualname := t558, params := defArgs (top 181), body := .stmts (defBody (top 181)), scope := defScope (top 181), globals := 3, closure := [], defaults := .none, kwdefaults := .none, doc := .none, pyModule := (.str t596 1788), annotations := none, code := (.ref 1038), closureTuple := .none, builtins := 0 }),⟨[]⟩⟩
def y1040 (w : World) : Obj := ⟨(.type "tuple"),none,(.seq ⟨[]⟩ 0),⟨[]⟩⟩
def y1041 (w : World) : Obj := ⟨.none,none,(.fields ⟨[]⟩),⟨[]⟩⟩
def y1042 (w : World) : Obj := ⟨.none,none,(.func { name := t559, qualname := t559, params := defArgs (top 182), body := .stmts (defBody (top 182)), scope := defScope (top 182), globals := 0, closure := [], defaults := .none, kwdefaults := .none, doc := .none, pyModule := .none, annotations := none, code := .none, closureTuple := .none, builtins := 0 }),⟨[]⟩⟩
def y1043 (w : World) : Obj := ⟨(.type "code"),none,(.fields ⟨[(.str t559 1807),(.str t559 1808),(.str t178 1809),(.int 784 0),(.int 3 0),(.int 0 0),(.int 0 0),(.int 3 0),(.ref 1040),(.bool true),(.int 370 0),(.ref 1041),.none,.none,.none,(.ref 1042),(.int 1810 0),(.int 784 0),(.str t178 1811)]⟩),⟨[]⟩⟩
def y1044 (w : World) : Obj := ⟨(.type "function"),none,(.func { name := t559, qualname := t559, params := defArgs (top 182), body := .stmts (defBody (top 182)), scope := defScope (top 182), globals := 3, closure := [], defaults := .none, kwdefaults := .none, doc := .none, pyModule := (.str t596 1788), annotations := none, code := (.ref 1043), closureTuple := .none, builtins := 0 }),⟨[]⟩⟩
def y1045 (w : World) : Obj := ⟨(.type "tuple"),none,(.seq ⟨[]⟩ 0),⟨[]⟩⟩
def y1046 (w : World) : Obj := ⟨.none,none,(.fields ⟨[]⟩),⟨[]⟩⟩
def y1047 (w : World) : Obj := ⟨.none,none,(.func { name := t560, qualname := t560, params := defArgs (top 183), body := .stmts (defBody (top 183)), scope := defScope (top 183), globals := 0, closure := [], defaults := .none, kwdefaults := .none, doc := .none, pyModule := .none, annotations := none, code := .none, closureTuple := .none, builtins := 0 }),⟨[]⟩⟩
def y1048 (w : World) : Obj := ⟨(.type "code"),none,(.fields ⟨[(.str t560 1813),(.str t560 1814),(.str t178 1815),(.int 786 0),(.int 2 0),(.int 0 0),(.int 0 0),(.int 3 0),(.ref 1045),(.bool true),(.int 370 0),(.ref 1046),.none,.none,.none,(.ref 1047),(.int 1816 0),(.int 786 0),(.str t178 1817)]⟩),⟨[]⟩⟩
def y1049 (w : World) : Obj := ⟨(.type "function"),none,(.func { name := t560, qualname := t560, params := defArgs (top 183), body := .stmts (defBody (top 183)), scope := defScope (top 183), globals := 3, closure := [], defaults := .none, kwdefaults := .none, doc := .none, pyModule := (.str t596 1788), annotations := none, code := (.ref 1048), closureTuple := .none, builtins := 0 }),⟨[]⟩⟩
def y1050 (w : World) : Obj := ⟨(.type "tuple"),none,(.seq ⟨[]⟩ 0),⟨[]⟩⟩
def y1051 (w : World) : Obj := ⟨.none,none,(.fields ⟨[]⟩),⟨[]⟩⟩
def y1052 (w : World) : Obj := ⟨(.type "tuple"),none,(.seq ⟨[(.str t532 1822),(.str t397 1823),(.str t552 1824),(.str t418 1825)]⟩ 0),⟨[]⟩⟩
def y1053 (w : World) : Obj := ⟨(.type "tuple"),none,(.seq ⟨[]⟩ 0),⟨[]⟩⟩
def y1054 (w : World) : Obj := ⟨.none,none,(.func { name := t561, qualname := t561, params := defArgs (top 184), body := .stmts (defBody (top 184)), scope := defScope (top 184), globals := 0, closure := [], defaults := .none, kwdefaults := .none, doc := .none, pyModule := .none, annotations := none, code := .none, closureTuple := .none, builtins := 0 }),⟨[]⟩⟩
def y1055 (w : World) : Obj := ⟨(.type "code"),none,(.fields ⟨[(.str t561 1819),(.str t561 1820),(.str t178 1821),(.int 790 0),(.int 2 0),(.int 0 0),(.int 0 0),(.int 3 0),(.ref 1050),(.bool true),(.int 370 0),(.ref 1051),.none,(.ref 1052),(.ref 1053),(.ref 1054),(.int 1826 0),(.int 790 0),(.str t178 1827)]⟩),⟨[]⟩⟩
def y1056 (w : World) : Obj := ⟨(.type "function"),none,(.func { name := t561, qualname := t561, params := defArgs (top 184), body := .stmts (defBody (top 184)), scope := defScope (top 184), globals := 3, closure := [], defaults := .none, kwdefaults := .none, doc := .none, pyModule := (.str t596 1788), annotations := none, code := (.ref 1055), closureTuple := .none, builtins := 0 }),⟨[]⟩⟩
def y1057 (w : World) : Obj := ⟨(.type "tuple"),none,(.seq ⟨[]⟩ 0),⟨[]⟩⟩
def y1058 (w : World) : Obj := ⟨.none,none,(.fields ⟨[]⟩),⟨[]⟩⟩
def y1059 (w : World) : Obj := ⟨.none,none,(.func { name := t562, qualname := t562, params := defArgs (top 185), body := .stmts (defBody (top 185)), scope := defScope (top 185), globals := 0, closure := [], defaults := .none, kwdefaults := .none, doc := .none, pyModule := .none, annotations := none, code := .none, closureTuple := .none, builtins := 0 }),⟨[]⟩⟩
def y1060 (w : World) : Obj := ⟨(.type "code"),none,(.fields ⟨[(.str t562 1829),(.str t562 1830),(.str t178 1831),(.int 796 0),(.int 2 0),(.int 0 0),(.int 0 0),(.int 3 0),(.ref 1057),(.bool true),(.int 370 0),(.ref 1058),.none,.none,.none,(.ref 1059),(.int 1832 0),(.int 796 0),(.str t178 1833)]⟩),⟨[]⟩⟩
def y1061 (w : World) : Obj := ⟨(.type "function"),none,(.func { name := t562, qualname := t562, params := defArgs (top 185), body := .stmts (defBody (top 185)), scope := defScope (top 185), globals := 3, closure := [], defaults := .none, kwdefaults := .none, doc := .none, pyModule := (.str t596 1788), annotations := none, code := (.ref 1060), closureTuple := .none, builtins := 0 }),⟨[]⟩⟩
def y1062 (w : World) : Obj := ⟨(.type "tuple"),none,(.seq ⟨[]⟩ 0),⟨[]⟩⟩
def y1063 (w : World) : Obj := ⟨.none,none,(.fields ⟨[]⟩),⟨[]⟩⟩
def y1064 (w : World) : Obj := ⟨(.type "tuple"),none,(.seq ⟨[(.str t324 1838),(.str t532 1839),(.str t395 1840)]⟩ 0),⟨[]⟩⟩
def y1065 (w : World) : Obj := ⟨(.type "tuple"),none,(.seq ⟨[]⟩ 0),⟨[]⟩⟩
def y1066 (w : World) : Obj := ⟨.none,none,(.func { name := t563, qualname := t563, params := defArgs (top 186), body := .stmts (defBody (top 186)), scope := defScope (top 186), globals := 0, closure := [], defaults := .none, kwdefaults := .none, doc := .none, pyModule := .none, annotations := none, code := .none, closureTuple := .none, builtins := 0 }),⟨[]⟩⟩
def y1067 (w : World) : Obj := ⟨(.type "code"),none,(.fields ⟨[(.str t563 1835),(.str t563 1836),(.str t178 1837),(.int 808 0),(.int 3 0),(.int 0 0),(.int 0 0),(.int 3 0),(.ref 1062),(.bool true),(.int 370 0),(.ref 1063),.none,(.ref 1064),(.ref 1065),(.ref 1066),(.int 1841 0),(.int 808 0),(.str t178 1842)]⟩),⟨[]⟩⟩
def y1068 (w : World) : Obj := ⟨(.type "function"),none,(.func { name := t563, qualname := t563, params := defArgs (top 186), body := .stmts (defBody (top 186)), scope := defScope (top 186), globals := 3, closure := [], defaults := .none, kwdefaults := .none, doc := .none, pyModule := (.str t596 1788), annotations := none, code := (.ref 1067), closureTuple := .none, builtins := 0 }),⟨[]⟩⟩
def y1069 (w : World) : Obj := ⟨(.type "tuple"),none,(.seq ⟨[]⟩ 0),⟨[]⟩⟩
def y1070 (w : World) : Obj := ⟨.none,none,(.fields ⟨[]⟩),⟨[]⟩⟩
def y1071 (w : World) : Obj := ⟨(.type "tuple"),none,(.seq ⟨[(.str t328 1849),(.str t532 1850),(.str t395 1851)]⟩ 0),⟨[]⟩⟩
def y1072 (w : World) : Obj := ⟨(.type "tuple"),none,(.seq ⟨[]⟩ 0),⟨[]⟩⟩
def y1073 (w : World) : Obj := ⟨.none,none,(.func { name := t450, qualname := t450, params := defArgs (top 188), body := .stmts (defBody (top 188)), scope := defScope (top 188), globals := 0, closure := [], defaults := .none, kwdefaults := .none, doc := .none, pyModule := .none, annotations := none, code := .none, closureTuple := .none, builtins := 0 }),⟨[]⟩⟩
def y1074 (w : World) : Obj := ⟨(.type "code"),none,(.fields ⟨[(.str t450 1846),(.str t450 1847),(.str t178 1848),(.int 811 0),(.int 3 0),(.int 0 0),(.int 0 0),(.int 3 0),(.ref 1069),(.bool true),(.int 370 0),(.ref 1070),.none,(.ref 1071),(.ref 1072),(.ref 1073),(.int 1852 0),(.int 811 0),(.str t178 1853)]⟩),⟨[]⟩⟩
def y1075 (w : World) : Obj := ⟨(.type "function"),none,(.func { name := t450, qualname := t450, params := defArgs (top 188), body := .stmts (defBody (top 188)), scope := defScope (top 188), globals := 3, closure := [], defaults := .none, kwdefaults := .none, doc := .none, pyModule := (.str t597 1844), annotations := none, code := (.ref 1074), closureTuple := .none, builtins := 0 }),⟨[]⟩⟩
def y1076 (w : World) : Obj := ⟨(.type "dict"),none,(.dict ⟨[⟨hs w t395,(.str t395 1856),(.int 400 773)⟩]⟩ 1),⟨[]⟩⟩
def y1077 (w : World) : Obj := ⟨(.type "tuple"),none,(.seq ⟨[]⟩ 0),⟨[]⟩⟩
def y1078 (w : World) : Obj := ⟨.none,none,(.fields ⟨[]⟩),⟨[]⟩⟩
def y1079 (w : World) : Obj := ⟨(.type "tuple"),none,(.seq ⟨[(.str t328 1860),(.str t532 1861),(.str t395 1862),(.str t598 1863),(.str t447 1864),(.str t397 1865),(.str t329 1866)]⟩ 0),⟨[]⟩⟩
def y1080 (w : World) : Obj := ⟨(.type "tuple"),none,(.seq ⟨[]⟩ 0),⟨[]⟩⟩
def y1081 (w : World) : Obj := ⟨.none,none,(.func { name := t565, qualname := t565, params := defArgs (top 190), body := .stmts (defBody (top 190)), scope := defScope (top 190), globals := 0, closure := [], defaults := .none, kwdefaults := .none, doc := .none, pyModule := .none, annotations := none, code := .none, closureTuple := .none, builtins := 0 }),⟨[]⟩⟩
def y1082 (w : World) : Obj := ⟨(.type "code"),none,(.fields ⟨[(.str t565 1857),(.str t565 1858),(.str t178 1859),(.int 815 0),(.int 2 0),(.int 0 0),(.int 1 0),(.int 3 0),(.ref 1077),(.bool true),(.int 370 0),(.ref 1078),.none,(.ref 1079),(.ref 1080),(.ref 1081),(.int 1867 0),(.int 815 0),(.str t178 1868)]⟩),⟨[]⟩⟩
def y1083 (w : World) : Obj := ⟨(.type "function"),none,(.func { name := t565, qualname := t565, params := defArgs (top 190), body := .stmts (defBody (top 190)), scope := defScope (top 190), globals := 3, closure := [], defaults := .none, kwdefaults := (.ref 1076), doc := .none, pyModule := (.str t597 1844), annotations := none, code := (.ref 1082), closureTuple := .none, builtins := 0 }),⟨[]⟩⟩
def y1084 (w : World) : Obj := ⟨(.type "tuple"),none,(.seq ⟨[(.str t599 1878),(.str t331 1879)]⟩ 0),⟨[]⟩⟩
def y1085 (w : World) : Obj := ⟨(.type "dict"),none,(.dict ⟨[⟨hs w t600,(.str t600 1881),(.ref 1086)⟩,⟨hs w t601,(.str t601 1882),(.ref 1087)⟩,⟨hs w t602,(.str t602 1883),(.ref 1088)⟩,⟨hs w t329,(.str t329 1884),(.ref 1089)⟩,⟨hs w t8,(.str t8 1886),(.ref 1090)⟩,⟨hs w t603,(.str t603 1888),(.ref 1091)⟩,⟨hs w t604,(.str t604 1890),(.ref 1092)⟩,⟨hs w t605,(.str t605 1892),(.ref 1093)⟩,⟨hs w t606,(.str t606 1895),(.ref 1094)⟩]⟩ 9),⟨[]⟩⟩
def y1086 (w : World) : Obj := ⟨(.type "tuple"),none,(.seq ⟨[]⟩ 0),⟨[]⟩⟩
def y1087 (w : World) : Obj := ⟨(.type "tuple"),none,(.seq ⟨[]⟩ 0),⟨[]⟩⟩
def y1088 (w : World) : Obj := ⟨(.type "tuple"),none,(.seq ⟨[]⟩ 0),⟨[]⟩⟩
def y1089 (w : World) : Obj := ⟨(.type "tuple"),none,(.seq ⟨[(.str t536 1885)]⟩ 0),⟨[]⟩⟩
def y1090 (w : World) : Obj := ⟨(.type "tuple"),none,(.seq ⟨[(.str t532 1887)]⟩ 0),⟨[]⟩⟩
def y1091 (w : World) : Obj := ⟨(.type "tuple"),none,(.seq ⟨[(.str t242 1889)]⟩ 0),⟨[]⟩⟩
def y1092 (w : World) : Obj := ⟨(.type "tuple"),none,(.seq ⟨[(.str t536 1891)]⟩ 0),⟨[]⟩⟩
def y1093 (w : World) : Obj := ⟨(.type "tuple"),none,(.seq ⟨[(.str t536 1893),(.str t536 1894)]⟩ 0),⟨[]⟩⟩
def y1094 (w : World) : Obj := ⟨(.type "tuple"),none,(.seq ⟨[(.str t607 1896)]⟩ 0),⟨[]⟩⟩
def y1095 (w : World) : Obj := ⟨(.type "tuple"),none,(.seq ⟨[]⟩ 0),⟨[]⟩⟩
def y1096 (w : World) : Obj := ⟨.none,none,(.fields ⟨[]⟩),⟨[]⟩⟩
def y1097 (w : World) : Obj := ⟨(.type "tuple"),none,(.seq ⟨[(.str t296 1910)]⟩ 0),⟨[]⟩⟩
def y1098 (w : World) : Obj := ⟨(.type "tuple"),none,(.seq ⟨[]⟩ 0),⟨[]⟩⟩
def y1099 (w : World) : Obj := ⟨.none,none,(.func { name := t571, qualname := t571, params := defArgs (top 197), body := .stmts (defBody (top 197)), scope := defScope (top 197), globals := 0, closure := [], defaults := .none, kwdefaults := .none, doc := .none, pyModule := .none, annotations := none, code := .none, closureTuple := .none, builtins := 0 }),⟨[]⟩⟩
def y1100 (w : World) : Obj := ⟨(.type "code"),none,(.fields ⟨[(.str t571 1907),(.str t571 1908),(.str t178 1909),(.int 829 0),(.int 1 0),(.int 0 0),(.int 0 0),(.int 3 0),(.ref 1095),(.bool true),(.int 370 0),(.ref 1096),.none,(.ref 1097),(.ref 1098),(.ref 1099),(.int 1911 0),(.int 829 0),(.str t178 1912)]⟩),⟨[]⟩⟩
def y1101 (w : World) : Obj := ⟨(.type "function"),none,(.func { name := t571, qualname := t571, params := defArgs (top 197), body := .stmts (defBody (top 197)), scope := defScope (top 197), globals := 3, closure := [], defaults := .none, kwdefaults := .none, doc := .none, pyModule := (.str t608 1870), annotations := none, code := (.ref 1100), closureTuple := .none, builtins := 0 }),⟨[]⟩⟩
def y1102 (w : World) : Obj := ⟨(.type "tuple"),none,(.seq ⟨[]⟩ 0),⟨[]⟩⟩
def y1103 (w : World) : Obj := ⟨.none,none,(.fields ⟨[]⟩),⟨[]⟩⟩
def y1104 (w : World) : Obj := ⟨(.type "tuple"),none,(.seq ⟨[(.str t534 1917)]⟩ 0),⟨[]⟩⟩
def y1105 (w : World) : Obj := ⟨(.type "tuple"),none,(.seq ⟨[]⟩ 0),⟨[]⟩⟩
def y1106 (w : World) : Obj := ⟨.none,none,(.func { name := t572, qualname := t572, params := defArgs (top 198), body := .stmts (defBody (top 198)), scope := defScope (top 198), globals := 0, closure := [], defaults := .none, kwdefaults := .none, doc := .none, pyModule := .none, annotations := none, code := .none, closureTuple := .none, builtins := 0 }),⟨[]⟩⟩
def y1107 (w : World) : Obj := ⟨(.type "code"),none,(.fields ⟨[(.str t572 1914),(.str t572 1915),(.str t178 1916),(.int 831 0),(.int 1 0),(.int 0 0),(.int 0 0),(.int 3 0),(.ref 1102),(.bool true),(.int 370 0),(.ref 1103),.none,(.ref 1104),(.ref 1105),(.ref 1106),(.int 1918 0),(.int 831 0),(.str t178 1919)]⟩),⟨[]⟩⟩
def y1108 (w : World) : Obj := ⟨(.type "function"),none,(.func { name := t572, qualname := t572, params := defArgs (top 198), body := .stmts (defBody (top 198)), scope := defScope (top 198), globals := 3, closure := [], defaults := .none, kwdefaults := .none, doc := .none, pyModule := (.str t608 1870), annotations := none, code := (.ref 1107), closureTuple := .none, builtins := 0 }),⟨[]⟩⟩
def y1109 (w : World) : Obj := ⟨(.type "tuple"),none,(.seq ⟨[]⟩ 0),⟨[]⟩⟩
def y1110 (w : World) : Obj := ⟨.none,none,(.fields ⟨[]⟩),⟨[]⟩⟩
def y1111 (w : World) : Obj := ⟨(.type "tuple"),none,(.seq ⟨[(.str t534 1924),(.str t536 1925)]⟩ 0),⟨[]⟩⟩
def y1112 (w : World) : Obj := ⟨(.type "tuple"),none,(.seq ⟨[]⟩ 0),⟨[]⟩⟩
def y1113 (w : World) : Obj := ⟨.none,none,(.func { name := t573, qualname := t573, params := defArgs (top 199), body := .stmts (defBody (top 199)), scope := defScope (top 199), globals := 0, closure := [], defaults := .none, kwdefaults := .none, doc := .none, pyModule := .none, annotations := none, code := .none, closureTuple := .none, builtins := 0 }),⟨[]⟩⟩
def y1114 (w : World) : Obj := ⟨(.type "code"),none,(.fields ⟨[(.str t573 1921),(.str t573 1922),(.str t178 1923),(.int 835 0),(.int 1 0),(.int 0 0),(.int 0 0),(.int 3 0),(.ref 1109),(.bool true),(.int 370 0),(.ref 1110),.none,(.ref 1111),(.ref 1112),(.ref 1113),(.int 1926 0),(.int 835 0),(.str t178 1927)]⟩),⟨[]⟩⟩
def y1115 (w : World) : Obj := ⟨(.type "function"),none,(.func { name := t573, qualname := t573, params := defArgs (top 199), body := .stmts (defBody (top 199)), scope := defScope (top 199), globals := 3, closure := [], defaults := .none, kwdefaults := .none, doc := .none, pyModule := (.str t608 1870), annotations := none, code := (.ref 1114), closureTuple := .none, builtins := 0 }),⟨[]⟩⟩
def y1116 (w : World) : Obj := ⟨(.type "tuple"),none,(.seq ⟨[]⟩ 0),⟨[]⟩⟩
def y1117 (w : World) : Obj := ⟨.none,none,(.fields ⟨[]⟩),⟨[]⟩⟩
def y1118 (w : World) : Obj := ⟨(.type "tuple"),none,(.seq ⟨[(.str t609 1932),(.str t534 1933)]⟩ 0),⟨[]⟩⟩
def y1119 (w : World) : Obj := ⟨(.type "tuple"),none,(.seq ⟨[]⟩ 0),⟨[]⟩⟩
def y1120 (w : World) : Obj := ⟨.none,none,(.func { name := t574, qualname := t574, params := defArgs (top 200), body := .stmts (defBody (top 200)), scope := defScope (top 200), globals := 0, closure := [], defaults := .none, kwdefaults := .none, doc := .none, pyModule := .none, annotations := none, code := .none, closureTuple := .none, builtins := 0 }),⟨[]⟩⟩
def y1121 (w : World) : Obj := ⟨(.type "code"),none,(.fields ⟨[(.str t574 1929),(.str t574 1930),(.str t178 1931),(.int 840 0),(.int 2 0),(.int 0 0),(.int 0 0),(.int 3 0),(.ref 1116),(.bool true),(.int 370 0),(.ref 1117),.none,(.ref 1118),(.ref 1119),(.ref 1120),(.int 1934 0),(.int 840 0),(.str t178 1935)]⟩),⟨[]⟩⟩
def y1122 (w : World) : Obj := ⟨(.type "function"),none,(.func { name := t574, qualname := t574, params := defArgs (top 200), body := .stmts (defBody (top 200)), scope := defScope (top 200), globals := 3, closure := [], defaults := .none, kwdefaults := .none, doc := .none, pyModule := (.str t608 1870), annotations := none, code := (.ref 1121), closureTuple := .none, builtins := 0 }),⟨[]⟩⟩
def y1123 (w : World) : Obj := ⟨(.type "tuple"),none,(.seq ⟨[]⟩ 0),⟨[]⟩⟩
def y1124 (w : World) : Obj := ⟨.none,none,(.fields ⟨[]⟩),⟨[]⟩⟩
def y1125 (w : World) : Obj := ⟨(.type "tuple"),none,(.seq ⟨[(.str t610 1940)]⟩ 0),⟨[]⟩⟩
def y1126 (w : World) : Obj := ⟨(.type "tuple"),none,(.seq ⟨[]⟩ 0),⟨[]⟩⟩
def y1127 (w : World) : Obj := ⟨.none,none,(.func { name := t575, qualname := t575, params := defArgs (top 201), body := .stmts (defBody (top 201)), scope := defScope (top 201), globals := 0, closure := [], defaults := .none, kwdefaults := .none, doc := .none, pyModule := .none, annotations := none, code := .none, closureTuple := .none, builtins := 0 }),⟨[]⟩⟩
def y1128 (w : World) : Obj := ⟨(.type "code"),none,(.fields ⟨[(.str t575 1937),(.str t575 1938),(.str t178 1939),(.int 846 0),(.int 1 0),(.int 0 0),(.int 0 0),(.int 3 0),(.ref 1123),(.bool true),(.int 370 0),(.ref 1124),.none,(.ref 1125),(.ref 1126),(.ref 1127),(.int 1941 0),(.int 846 0),(.str t178 1942)]⟩),⟨[]⟩⟩
def y1129 (w : World) : Obj := ⟨(.type "function"),none,(.func { name := t575, qualname := t575, params := defArgs (top 201), body := .stmts (defBody (top 201)), scope := defScope (top 201), globals := 3, closure := [], defaults := .none, kwdefaults := .none, doc := .none, pyModule := (.str t608 1870), annotations := none, code := (.ref 1128), closureTuple := .none, builtins := 0 }),⟨[]⟩⟩
def y1130 (w : World) : Obj := ⟨(.type "tuple"),none,(.seq ⟨[]⟩ 0),⟨[]⟩⟩
def y1131 (w : World) : Obj := ⟨.none,none,(.fields ⟨[]⟩),⟨[]⟩⟩
def y1132 (w : World) : Obj := ⟨.none,none,(.func { name := t576, qualname := t576, params := defArgs (top 202), body := .stmts (defBody (top 202)), scope := defScope (top 202), globals := 0, closure := [], defaults := .none, kwdefaults := .none, doc := .none, pyModule := .none, annotations := none, code := .none, closureTuple := .none, builtins := 0 }),⟨[]⟩⟩
def y1133 (w : World) : Obj := ⟨(.type "code"),none,(.fields ⟨[(.str t576 1944),(.str t576 1945),(.str t178 1946),(.int 850 0),(.int 1 0),(.int 0 0),(.int 0 0),(.int 3 0),(.ref 1130),(.bool true),(.int 370 0),(.ref 1131),.none,.none,.none,(.ref 1132),(.int 1947 0),(.int 850 0),(.str t178 1948)]⟩),⟨[]⟩⟩
def y1134 (w : World) : Obj := ⟨(.type "function"),none,(.func { name := t576, qualname := t576, params := defArgs (top 202), body := .stmts (defBody (top 202)), scope := defScope (top 202), globals := 3, closure := [], defaults := .none, kwdefaults := .none, doc := .none, pyModule := (.str t608 1870), annotations := none, code := (.ref 1133), closureTuple := .none, builtins := 0 }),⟨[]⟩⟩
def y1135 (w : World) : Obj := ⟨(.type "tuple"),none,(.seq ⟨[]⟩ 0),⟨[]⟩⟩
def y1136 (w : World) : Obj := ⟨.none,none,(.fields ⟨[]⟩),⟨[]⟩⟩
def y1137 (w : World) : Obj := ⟨(.type "tuple"),none,(.seq ⟨[(.str t441 1953)]⟩ 0),⟨[]⟩⟩
def y1138 (w : World) : Obj := ⟨(.type "tuple"),none,(.seq ⟨[]⟩ 0),⟨[]⟩⟩
def y1139 (w : World) : Obj := ⟨.none,none,(.func { name := t577, qualname := t577, params := defArgs (top 203), body := .stmts (defBody (top 203)), scope := defScope (top 203), globals := 0, closure := [], defaults := .none, kwdefaults := .none, doc := .none, pyModule := .none, annotations := none, code := .none, closureTuple := .none, builtins := 0 }),⟨[]⟩⟩
def y1140 (w : World) : Obj := ⟨(.type "code"),none,(.fields ⟨[(.str t577 1950),(.str t577 1951),(.str t178 1952),(.int 864 0),(.int 1 0),(.int 0 0),(.int 0 0),(.int 3 0),(.ref 1135),(.bool true),(.int 370 0),(.ref 1136),.none,(.ref 1137),(.ref 1138),(.ref 1139),(.int 1954 0),(.int 864 0),(.str t178 1955)]⟩),⟨[]⟩⟩
def y1141 (w : World) : Obj := ⟨(.type "function"),none,(.func { name := t577, qualname := t577, params := defArgs (top 203), body := .stmts (defBody (top 203)), scope := defScope (top 203), globals := 3, closure := [], defaults := .none, kwdefaults := .none, doc := .none, pyModule := (.str t608 1870), annotations := none, code := (.ref 1140), closureTuple := .none, builtins := 0 }),⟨[]⟩⟩
def y1142 (w : World) : Obj := ⟨(.type "tuple"),none,(.seq ⟨[]⟩ 0),⟨[]⟩⟩
def y1143 (w : World) : Obj := ⟨.none,none,(.fields ⟨[]⟩),⟨[]⟩⟩
def y1144 (w : World) : Obj := ⟨(.type "tuple"),none,(.seq ⟨[(.str t441 1960)]⟩ 0),⟨[]⟩⟩
def y1145 (w : World) : Obj := ⟨(.type "tuple"),none,(.seq ⟨[]⟩ 0),⟨[]⟩⟩
def y1146 (w : World) : Obj := ⟨.none,none,(.func { name := t578, qualname := t578, params := defArgs (top 204), body := .stmts (defBody (top 204)), scope := defScope (top 204), globals := 0, closure := [], defaults := .none, kwdefaults := .none, doc := .none, pyModule := .none, annotations := none, code := .none, closureTuple := .none, builtins := 0 }),⟨[]⟩⟩
def y1147 (w : World) : Obj := ⟨(.type "code"),none,(.fields ⟨[(.str t578 1957),(.str t578 1958),(.str t178 1959),(.int 868 0),(.int 1 0),(.int 0 0),(.int 0 0),(.int 3 0),(.ref 1142),(.bool true),(.int 370 0),(.ref 1143),.none,(.ref 1144),(.ref 1145),(.ref 1146),(.int 1961 0),(.int 868 0),(.str t178 1962)]⟩),⟨[]⟩⟩
def y1148 (w : World) : Obj := ⟨(.type "function"),none,(.func { name := t578, qualname := t578, params := defArgs (top 204), body := .stmts (defBody (top 204)), scope := defScope (top 204), globals := 3, closure := [], defaults := .none, kwdefaults := .none, doc := .none, pyModule := (.str t608 1870), annotations := none, code := (.ref 1147), closureTuple := .none, builtins := 0 }),⟨[]⟩⟩
def y1149 (w : World) : Obj := ⟨(.type "tuple"),none,(.seq ⟨[]⟩ 0),⟨[]⟩⟩
def y1150 (w : World) : Obj := ⟨.none,none,(.fields ⟨[]⟩),⟨[]⟩⟩
def y1151 (w : World) : Obj := ⟨(.type "tuple"),none,(.seq ⟨[(.str t539 1967),(.str t328 1968),(.str t611 1969),(.str t612 1970)]⟩ 0),⟨[]⟩⟩
def y1152 (w : World) : Obj := ⟨(.type "tuple"),none,(.seq ⟨[]⟩ 0),⟨[]⟩⟩
def y1153 (w : World) : Obj := ⟨.none,none,(.func { name := t579, qualname := t579, params := defArgs (top 205), body := .stmts (defBody (top 205)), scope := defScope (top 205), globals := 0, closure := [], defaults := .none, kwdefaults := .none, doc := .none, pyModule := .none, annotations := none, code := .none, closureTuple := .none, builtins := 0 }),⟨[]⟩⟩
def y1154 (w : World) : Obj := ⟨(.type "code"),none,(.fields ⟨[(.str t579 1964),(.str t579 1965),(.str t178 1966),(.int 874 0),(.int 3 0),(.int 0 0),(.int 0 0),(.int 3 0),(.ref 1149),(.bool true),(.int 370 0),(.ref 1150),.none,(.ref 1151),(.ref 1152),(.ref 1153),(.int 1971 0),(.int 874 0),(.str t178 1972)]⟩),⟨[]⟩⟩
def y1155 (w : World) : Obj := ⟨(.type "function"),none,(.func { name := t579, qualname := t579, params := defArgs (top 205), body := .stmts (defBody (top 205)), scope := defScope (top 205), globals := 3, closure := [], defaults := .none, kwdefaults := .none, doc := .none, pyModule := (.str t608 1870), annotations := none, code := (.ref 1154), closureTuple := .none, builtins := 0 }),⟨[]⟩⟩
def y1156 (w : World) : Obj := ⟨(.type "tuple"),none,(.seq ⟨[]⟩ 0),⟨[]⟩⟩
def y1157 (w : World) : Obj := ⟨(.type "builtin_function_or_method"),none,(.fields ⟨[(.builtin "type.__prepare__"),(.type "type")]⟩),⟨[]⟩⟩
def y1158 (w : World) : Obj := ⟨(.type "dict"),none,(.dict ⟨[⟨hs w t244,(.str t244 1983),(.str t620 1974)⟩,⟨hs w t294,(.str t294 1985),(.str t580 1984)⟩,⟨hs w t245,(.str t245 1987),(.int 893 1986)⟩,⟨hs w t259,(.str t259 1994),(.ref 1169)⟩,⟨hs w t613,(.str t613 2004),(.ref 1176)⟩,⟨hs w t614,(.str t614 2013),(.ref 1183)⟩,⟨hs w t615,(.str t615 2022),(.ref 1190)⟩,⟨hs w t600,(.str t600 2030),(.ref 1197)⟩,⟨hs w t599,(.str t599 2039),(.ref 1204)⟩,⟨hs w t331,(.str t331 2046),(.ref 1211)⟩,⟨hs w t328,(.str t328 2054),(.ref 1218)⟩,⟨hs w t616,(.str t616 2061),(.ref 1225)⟩,⟨hs w t617,(.str t617 2069),(.ref 1232)⟩,⟨hs w t618,(.str t618 2078),(.ref 1239)⟩,⟨hs w t619,(.str t619 2088),(.ref 1246)⟩,⟨hs w t250,(.str t250 2091),(.ref 1247)⟩]⟩ 16),⟨[]⟩⟩
def y1159 (w : World) : Obj := ⟨(.type "tuple"),none,(.seq ⟨[]⟩ 0),⟨[]⟩⟩
def y1160 (w : World) : Obj := ⟨.none,none,(.fields ⟨[(.int 895 0),(.int 4 0),(.ref 1168),(.int 899 0),(.int 4 0),(.ref 1175),(.int 906 0),(.int 4 0),(.ref 1182),(.int 912 0),(.int 4 0),(.ref 1189),(.int 918 0),(.int 4 0),(.ref 1196),(.int 922 0),(.int 4 0),(.ref 1203),(.int 928 0),(.int 4 0),(.ref 1210),(.int 931 0),(.int 4 0),(.ref 1217),(.int 936 0),(.int 4 0),(.ref 1224),(.int 939 0),(.int 4 0),(.ref 1231),(.int 942 0),(.int 4 0),(.ref 1238),(.int 959 0),(.int 4 0),(.ref 1245)]⟩),⟨[]⟩⟩
def y1161 (w : World) : Obj := ⟨(.type "code"),none,(.fields ⟨[(.str t580 1978),(.str t580 1979),(.str t178 1980),(.int 893 0),(.int 0 0),(.int 0 0),(.int 0 0),(.int 0 0),(.ref 1159),(.bool false),(.int 370 0),(.ref 1160),.none,.none,.none,.none,(.int 1981 0),(.int 893 0),(.str t178 1982)]⟩),⟨[]⟩⟩
def y1162 (w : World) : Obj := ⟨(.type "frame"),none,.plain,⟨[(some (.ref 1161)),(some (.ref 3)),(some (.ref 1158)),none,(some (.str t620 1974)),none,(some (.ref 0))]⟩⟩
def y1163 (w : World) : Obj := ⟨(.type "tuple"),none,(.seq ⟨[]⟩ 0),⟨[]⟩⟩
def y1164 (w : World) : Obj := ⟨.none,none,(.fields ⟨[]⟩),⟨[]⟩⟩
def y1165 (w : World) : Obj := ⟨(.type "tuple"),none,(.seq ⟨[(.str t295 1991)]⟩ 0),⟨[]⟩⟩
def y1166 (w : World) : Obj := ⟨(.type "tuple"),none,(.seq ⟨[]⟩ 0),⟨[]⟩⟩
def y1167 (w : World) : Obj := ⟨.none,none,(.func { name := t259, qualname := t621, params := defArgs (inClass (top 207) 0), body := .stmts (defBody (inClass (top 207) 0)), scope := defScope (inClass (top 207) 0), globals := 0, closure := [], defaults := .none, kwdefaults := .none, doc := .none, pyModule := .none, annotations := none, code := .none, closureTuple := .none, builtins := 0 }),⟨[]⟩⟩
def y1168 (w : World) : Obj := ⟨(.type "code"),none,(.fields ⟨[(.str t259 1988),(.str t621 1989),(.str t178 1990),(.int 895 0),(.int 1 0),(.int 0 0),(.int 0 0),(.int 3 0),(.ref 1163),(.bool true),(.int 370 0),(.ref 1164),.none,(.ref 1165),(.ref 1166),(.ref 1167),(.int 1992 0),(.int 895 0),(.str t178 1993)]⟩),⟨[]⟩⟩
def y1169 (w : World) : Obj := ⟨(.type "function"),none,(.func { name := t259, qualname := t621, params := defArgs (inClass (top 207) 0), body := .stmts (defBody (inClass (top 207) 0)), scope := defScope (inClass (top 207) 0), globals := 3, closure := [], defaults := .none, kwdefaults := .none, doc := .none, pyModule := (.str t620 1974), annotations := none, code := (.ref 1168), closureTuple := .none, builtins := 0 }),⟨[]⟩⟩
def y1170 (w : World) : Obj := ⟨(.type "tuple"),none,(.seq ⟨[]⟩ 0),⟨[]⟩⟩
def y1171 (w : World) : Obj := ⟨.none,none,(.fields ⟨[]⟩),⟨[]⟩⟩
def y1172 (w : World) : Obj := ⟨(.type "tuple"),none,(.seq ⟨[(.str t295 1998),(.str t242 1999),(.str t328 2000),(.str t622 2001)]⟩ 0),⟨[]⟩⟩
def y1173 (w : World) : Obj := ⟨(.type "tuple"),none,(.seq ⟨[]⟩ 0),⟨[]⟩⟩
def y1174 (w : World) : Obj := ⟨.none,none,(.func { name := t613, qualname := t623, params := defArgs (inClass (top 207) 1), body := .stmts (defBody (inClass (top 207) 1)), scope := defScope (inClass (top 207) 1), globals := 0, closure := [], defaults := .none, kwdefaults := .none, doc := .none, pyModule := .none, annotations := none, code := .none, closureTuple := .none, builtins := 0 }),⟨[]⟩⟩
def y1175 (w : World) : Obj := ⟨(.type "code"),none,(.fields ⟨[(.str t613 1995),(.str t623 1996),(.str t178 1997),(.int 899 0),(.int 3 0),(.int 0 0),(.int 0 0),(.int 3 0),(.ref 1170),(.bool true),(.int 370 0),(.ref 1171),.none,(.ref 1172),(.ref 1173),(.ref 1174),(.int 2002 0),(.int 899 0),(.str t178 2003)]⟩),⟨[]⟩⟩
def y1176 (w : World) : Obj := ⟨(.type "function"),none,(.func { name := t613, qualname := t623, params := defArgs (inClass (top 207) 1), body := .stmts (defBody (inClass (top 207) 1)), scope := defScope (inClass (top 207) 1), globals := 3, closure := [], defaults := .none, kwdefaults := .none, doc := .none, pyModule := (.str t620 1974), annotations := none, code := (.ref 1175), closureTuple := .none, builtins := 0 }),⟨[]⟩⟩
def y1177 (w : World) : Obj := ⟨(.type "tuple"),none,(.seq ⟨[]⟩ 0),⟨[]⟩⟩
def y1178 (w : World) : Obj := ⟨.none,none,(.fields ⟨[]⟩),⟨[]⟩⟩
def y1179 (w : World) : Obj := ⟨(.type "tuple"),none,(.seq ⟨[(.str t295 2008),(.str t242 2009),(.str t328 2010)]⟩ 0),⟨[]⟩⟩
def y1180 (w : World) : Obj := ⟨(.type "tuple"),none,(.seq ⟨[]⟩ 0),⟨[]⟩⟩
def y1181 (w : World) : Obj := ⟨.none,none,(.func { name := t614, qualname := t624, params := defArgs (inClass (top 207) 2), body := .stmts (defBody (inClass (top 207) 2)), scope := defScope (inClass (top 207) 2), globals := 0, closure := [], defaults := .none, kwdefaults := .none, doc := .none, pyModule := .none, annotations := none, code := .none, closureTuple := .none, builtins := 0 }),⟨[]⟩⟩
def y1182 (w : World) : Obj := ⟨(.type "code"),none,(.fields ⟨[(.str t614 2005),(.str t624 2006),(.str t178 2007),(.int 906 0),(.int 3 0),(.int 0 0),(.int 0 0),(.int 3 0),(.ref 1177),(.bool true),(.int 370 0),(.ref 1178),.none,(.ref 1179),(.ref 1180),(.ref 1181),(.int 2011 0),(.int 906 0),(.str t178 2012)]⟩),⟨[]⟩⟩
def y1183 (w : World) : Obj := ⟨(.type "function"),none,(.func { name := t614, qualname := t624, params := defArgs (inClass (top 207) 2), body := .stmts (defBody (inClass (top 207) 2)), scope := defScope (inClass (top 207) 2), globals := 3, closure := [], defaults := .none, kwdefaults := .none, doc := .none, pyModule := (.str t620 1974), annotations := none, code := (.ref 1182), closureTuple := .none, builtins := 0 }),⟨[]⟩⟩
def y1184 (w : World) : Obj := ⟨(.type "tuple"),none,(.seq ⟨[]⟩ 0),⟨[]⟩⟩
def y1185 (w : World) : Obj := ⟨.none,none,(.fields ⟨[]⟩),⟨[]⟩⟩
def y1186 (w : World) : Obj := ⟨(.type "tuple"),none,(.seq ⟨[(.str t295 2017),(.str t242 2018),(.str t328 2019)]⟩ 0),⟨[]⟩⟩
def y1187 (w : World) : Obj := ⟨(.type "tuple"),none,(.seq ⟨[]⟩ 0),⟨[]⟩⟩
def y1188 (w : World) : Obj := ⟨.none,none,(.func { name := t615, qualname := t625, params := defArgs (inClass (top 207) 3), body := .stmts (defBody (inClass (top 207) 3)), scope := defScope (inClass (top 207) 3), globals := 0, closure := [], defaults := .none, kwdefaults := .none, doc := .none, pyModule := .none, annotations := none, code := .none, closureTuple := .none, builtins := 0 }),⟨[]⟩⟩
def y1189 (w : World) : Obj := ⟨(.type "code"),none,(.fields ⟨[(.str t615 2014),(.str t625 2015),(.str t178 2016),(.int 912 0),(.int 3 0),(.int 0 0),(.int 0 0),(.int 3 0),(.ref 1184),(.bool true),(.int 370 0),(.ref 1185),.none,(.ref 1186),(.ref 1187),(.ref 1188),(.int 2020 0),(.int 912 0),(.str t178 2021)]⟩),⟨[]⟩⟩
def y1190 (w : World) : Obj := ⟨(.type "function"),none,(.func { name := t615, qualname := t625, params := defArgs (inClass (top 207) 3), body := .stmts (defBody (inClass (top 207) 3)), scope := defScope (inClass (top 207) 3), globals := 3, closure := [], defaults := .none, kwdefaults := .none, doc := .none, pyModule := (.str t620 1974), annotations := none, code := (.ref 1189), closureTuple := .none, builtins := 0 }),⟨[]⟩⟩
def y1191 (w : World) : Obj := ⟨(.type "tuple"),none,(.seq ⟨[]⟩ 0),⟨[]⟩⟩
def y1192 (w : World) : Obj := ⟨.none,none,(.fields ⟨[]⟩),⟨[]⟩⟩
def y1193 (w : World) : Obj := ⟨(.type "tuple"),none,(.seq ⟨[(.str t295 2026),(.str t242 2027)]⟩ 0),⟨[]⟩⟩
def y1194 (w : World) : Obj := ⟨(.type "tuple"),none,(.seq ⟨[]⟩ 0),⟨[]⟩⟩
def y1195 (w : World) : Obj := ⟨.none,none,(.func { name := t600, qualname := t626, params := defArgs (inClass (top 207) 4), body := .stmts (defBody (inClass (top 207) 4)), scope := defScope (inClass (top 207) 4), globals := 0, closure := [], defaults := .none, kwdefaults := .none, doc := .none, pyModule := .none, annotations := none, code := .none, closureTuple := .none, builtins := 0 }),⟨[]⟩⟩
def y1196 (w : World) : Obj := ⟨(.type "code"),none,(.fields ⟨[(.str t600 2023),(.str t626 2024),(.str t178 2025),(.int 918 0),(.int 2 0),(.int 0 0),(.int 0 0),(.int 3 0),(.ref 1191),(.bool true),(.int 370 0),(.ref 1192),.none,(.ref 1193),(.ref 1194),(.ref 1195),(.int 2028 0),(.int 918 0),(.str t178 2029)]⟩),⟨[]⟩⟩
def y1197 (w : World) : Obj := ⟨(.type "function"),none,(.func { name := t600, qualname := t626, params := defArgs (inClass (top 207) 4), body := .stmts (defBody (inClass (top 207) 4)), scope := defScope (inClass (top 207) 4), globals := 3, closure := [], defaults := .none, kwdefaults := .none, doc := .none, pyModule := (.str t620 1974), annotations := none, code := (.ref 1196), closureTuple := .none, builtins := 0 }),⟨[]⟩⟩
def y1198 (w : World) : Obj := ⟨(.type "tuple"),none,(.seq ⟨[]⟩ 0),⟨[]⟩⟩
def y1199 (w : World) : Obj := ⟨.none,none,(.fields ⟨[]⟩),⟨[]⟩⟩
def y1200 (w : World) : Obj := ⟨(.type "tuple"),none,(.seq ⟨[(.str t295 2034),(.str t242 2035),(.str t622 2036)]⟩ 0),⟨[]⟩⟩
def y1201 (w : World) : Obj := ⟨(.type "tuple"),none,(.seq ⟨[]⟩ 0),⟨[]⟩⟩
def y1202 (w : World) : Obj := ⟨.none,none,(.func { name := t599, qualname := t627, params := defArgs (inClass (top 207) 5), body := .stmts (defBody (inClass (top 207) 5)), scope := defScope (inClass (top 207) 5), globals := 0, closure := [], defaults := .none, kwdefaults := .none, doc := .none, pyModule := .none, annotations := none, code := .none, closureTuple := .none, builtins := 0 }),⟨[]⟩⟩
def y1203 (w : World) : Obj := ⟨(.type "code"),none,(.fields ⟨[(.str t599 2031),(.str t627 2032),(.str t178 2033),(.int 922 0),(.int 1 0),(.int 0 0),(.int 0 0),(.int 3 0),(.ref 1198),(.bool true),(.int 370 0),(.ref 1199),.none,(.ref 1200),(.ref 1201),(.ref 1202),(.int 2037 0),(.int 922 0),(.str t178 2038)]⟩),⟨[]⟩⟩
def y1204 (w : World) : Obj := ⟨(.type "function"),none,(.func { name := t599, qualname := t627, params := defArgs (inClass (top 207) 5), body := .stmts (defBody (inClass (top 207) 5)), scope := defScope (inClass (top 207) 5), globals := 3, closure := [], defaults := .none, kwdefaults := .none, doc := .none, pyModule := (.str t620 1974), annotations := none, code := (.ref 1203), closureTuple := .none, builtins := 0 }),⟨[]⟩⟩
def y1205 (w : World) : Obj := ⟨(.type "tuple"),none,(.seq ⟨[]⟩ 0),⟨[]⟩⟩
def y1206 (w : World) : Obj := ⟨.none,none,(.fields ⟨[]⟩),⟨[]⟩⟩
def y1207 (w : World) : Obj := ⟨(.type "tuple"),none,(.seq ⟨[(.str t295 2043)]⟩ 0),⟨[]⟩⟩
def y1208 (w : World) : Obj := ⟨(.type "tuple"),none,(.seq ⟨[]⟩ 0),⟨[]⟩⟩
def y1209 (w : World) : Obj := ⟨.none,none,(.func { name := t331, qualname := t628, params := defArgs (inClass (top 207) 6), body := .stmts (defBody (inClass (top 207) 6)), scope := defScope (inClass (top 207) 6), globals := 0, closure := [], defaults := .none, kwdefaults := .none, doc := .none, pyModule := .none, annotations := none, code := .none, closureTuple := .none, builtins := 0 }),⟨[]⟩⟩
def y1210 (w : World) : Obj := ⟨(.type "code"),none,(.fields ⟨[(.str t331 2040),(.str t628 2041),(.str t178 2042),(.int 928 0),(.int 1 0),(.int 0 0),(.int 0 0),(.int 3 0),(.ref 1205),(.bool true),(.int 370 0),(.ref 1206),.none,(.ref 1207),(.ref 1208),(.ref 1209),(.int 2044 0),(.int 928 0),(.str t178 2045)]⟩),⟨[]⟩⟩
def y1211 (w : World) : Obj := ⟨(.type "function"),none,(.func { name := t331, qualname := t628, params := defArgs (inClass (top 207) 6), body := .stmts (defBody (inClass (top 207) 6)), scope := defScope (inClass (top 207) 6), globals := 3, closure := [], defaults := .none, kwdefaults := .none, doc := .none, pyModule := (.str t620 1974), annotations := none, code := (.ref 1210), closureTuple := .none, builtins := 0 }),⟨[]⟩⟩
def y1212 (w : World) : Obj := ⟨(.type "tuple"),none,(.seq ⟨[]⟩ 0),⟨[]⟩⟩
def y1213 (w : World) : Obj := ⟨.none,none,(.fields ⟨[]⟩),⟨[]⟩⟩
def y1214 (w : World) : Obj := ⟨(.type "tuple"),none,(.seq ⟨[(.str t295 2050),(.str t242 2051)]⟩ 0),⟨[]⟩⟩
def y1215 (w : World) : Obj := ⟨(.type "tuple"),none,(.seq ⟨[]⟩ 0),⟨[]⟩⟩
def y1216 (w : World) : Obj := ⟨.none,none,(.func { name := t328, qualname := t629, params := defArgs (inClass (top 207) 7), body := .stmts (defBody (inClass (top 207) 7)), scope := defScope (inClass (top 207) 7), globals := 0, closure := [], defaults := .none, kwdefaults := .none, doc := .none, pyModule := .none, annotations := none, code := .none, closureTuple := .none, builtins := 0 }),⟨[]⟩⟩
def y1217 (w : World) : Obj := ⟨(.type "code"),none,(.fields ⟨[(.str t328 2047),(.str t629 2048),(.str t178 2049),(.int 931 0),(.int 2 0),(.int 0 0),(.int 0 0),(.int 3 0),(.ref 1212),(.bool true),(.int 370 0),(.ref 1213),.none,(.ref 1214),(.ref 1215),(.ref 1216),(.int 2052 0),(.int 931 0),(.str t178 2053)]⟩),⟨[]⟩⟩
def y1218 (w : World) : Obj := ⟨(.type "function"),none,(.func { name := t328, qualname := t629, params := defArgs (inClass (top 207) 7), body := .stmts (defBody (inClass (top 207) 7)), scope := defScope (inClass (top 207) 7), globals := 3, closure := [], defaults := .none, kwdefaults := .none, doc := .none, pyModule := (.str t620 1974), annotations := none, code := (.ref 1217), closureTuple := .none, builtins := 0 }),⟨[]⟩⟩
def y1219 (w : World) : Obj := ⟨(.type "tuple"),none,(.seq ⟨[]⟩ 0),⟨[]⟩⟩
def y1220 (w : World) : Obj := ⟨.none,none,(.fields ⟨[]⟩),⟨[]⟩⟩
def y1221 (w : World) : Obj := ⟨(.type "tuple"),none,(.seq ⟨[(.str t295 2058)]⟩ 0),⟨[]⟩⟩
def y1222 (w : World) : Obj := ⟨(.type "tuple"),none,(.seq ⟨[]⟩ 0),⟨[]⟩⟩
def y1223 (w : World) : Obj := ⟨.none,none,(.func { name := t616, qualname := t630, params := defArgs (inClass (top 207) 8), body := .stmts (defBody (inClass (top 207) 8)), scope := defScope (inClass (top 207) 8), globals := 0, closure := [], defaults := .none, kwdefaults := .none, doc := .none, pyModule := .none, annotations := none, code := .none, closureTuple := .none, builtins := 0 }),⟨[]⟩⟩
def y1224 (w : World) : Obj := ⟨(.type "code"),none,(.fields ⟨[(.str t616 2055),(.str t630 2056),(.str t178 2057),(.int 936 0),(.int 1 0),(.int 0 0),(.int 0 0),(.int 3 0),(.ref 1219),(.bool true),(.int 370 0),(.ref 1220),.none,(.ref 1221),(.ref 1222),(.ref 1223),(.int 2059 0),(.int 936 0),(.str t178 2060)]⟩),⟨[]⟩⟩
def y1225 (w : World) : Obj := ⟨(.type "function"),none,(.func { name := t616, qualname := t630, params := defArgs (inClass (top 207) 8), body := .stmts (defBody (inClass (top 207) 8)), scope := defScope (inClass (top 207) 8), globals := 3, closure := [], defaults := .none, kwdefaults := .none, doc := .none, pyModule := (.str t620 1974), annotations := none, code := (.ref 1224), closureTuple := .none, builtins := 0 }),⟨[]⟩⟩
def y1226 (w : World) : Obj := ⟨(.type "tuple"),none,(.seq ⟨[]⟩ 0),⟨[]⟩⟩
def y1227 (w : World) : Obj := ⟨.none,none,(.fields ⟨[]⟩),⟨[]⟩⟩
def y1228 (w : World) : Obj := ⟨(.type "tuple"),none,(.seq ⟨[(.str t295 2065),(.str t242 2066)]⟩ 0),⟨[]⟩⟩
def y1229 (w : World) : Obj := ⟨(.type "tuple"),none,(.seq ⟨[]⟩ 0),⟨[]⟩⟩
def y1230 (w : World) : Obj := ⟨.none,none,(.func { name := t617, qualname := t631, params := defArgs (inClass (top 207) 9), body := .stmts (defBody (inClass (top 207) 9)), scope := defScope (inClass (top 207) 9), globals := 0, closure := [], defaults := .none, kwdefaults := .none, doc := .none, pyModule := .none, annotations := none, code := .none, closureTuple := .none, builtins := 0 }),⟨[]⟩⟩
def y1231 (w : World) : Obj := ⟨(.type "code"),none,(.fields ⟨[(.str t617 2062),(.str t631 2063),(.str t178 2064),(.int 939 0),(.int 2 0),(.int 0 0),(.int 0 0),(.int 3 0),(.ref 1226),(.bool true),(.int 370 0),(.ref 1227),.none,(.ref 1228),(.ref 1229),(.ref 1230),(.int 2067 0),(.int 939 0),(.str t178 2068)]⟩),⟨[]⟩⟩
def y1232 (w : World) : Obj := ⟨(.type "function"),none,(.func { name := t617, qualname := t631, params := defArgs (inClass (top 207) 9), body := .stmts (defBody (inClass (top 207) 9)), scope := defScope (inClass (top 207) 9), globals := 3, closure := [], defaults := .none, kwdefaults := .none, doc := .none, pyModule := (.str t620 1974), annotations := none, code := (.ref 1231), closureTuple := .none, builtins := 0 }),⟨[]⟩⟩
def y1233 (w : World) : Obj := ⟨(.type "tuple"),none,(.seq ⟨[]⟩ 0),⟨[]⟩⟩
def y1234 (w : World) : Obj := ⟨.none,none,(.fields ⟨[]⟩),⟨[]⟩⟩
def y1235 (w : World) : Obj := ⟨(.type "tuple"),none,(.seq ⟨[(.str t295 2073),(.str t534 2074),(.str t441 2075)]⟩ 0),⟨[]⟩⟩
def y1236 (w : World) : Obj := ⟨(.type "tuple"),none,(.seq ⟨[]⟩ 0),⟨[]⟩⟩
def y1237 (w : World) : Obj := ⟨.none,none,(.func { name := t618, qualname := t632, params := defArgs (inClass (top 207) 10), body := .stmts (defBody (inClass (top 207) 10)), scope := defScope (inClass (top 207) 10), globals := 0, closure := [], defaults := .none, kwdefaults := .none, doc := .none, pyModule := .none, annotations := none, code := .none, closureTuple := .none, builtins := 0 }),⟨[]⟩⟩
def y1238 (w : World) : Obj := ⟨(.type "code"),none,(.fields ⟨[(.str t618 2070),(.str t632 2071),(.str t178 2072),(.int 942 0),(.int 2 0),(.int 0 0),(.int 0 0),(.int 3 0),(.ref 1233),(.bool true),(.int 370 0),(.ref 1234),.none,(.ref 1235),(.ref 1236),(.ref 1237),(.int 2076 0),(.int 942 0),(.str t178 2077)]⟩),⟨[]⟩⟩
def y1239 (w : World) : Obj := ⟨(.type "function"),none,(.func { name := t618, qualname := t632, params := defArgs (inClass (top 207) 10), body := .stmts (defBody (inClass (top 207) 10)), scope := defScope (inClass (top 207) 10), globals := 3, closure := [], defaults := .none, kwdefaults := .none, doc := .none, pyModule := (.str t620 1974), annotations := none, code := (.ref 1238), closureTuple := .none, builtins := 0 }),⟨[]⟩⟩
def y1240 (w : World) : Obj := ⟨(.type "tuple"),none,(.seq ⟨[]⟩ 0),⟨[]⟩⟩
def y1241 (w : World) : Obj := ⟨.none,none,(.fields ⟨[]⟩),⟨[]⟩⟩
def y1242 (w : World) : Obj := ⟨(.type "tuple"),none,(.seq ⟨[(.str t295 2082),(.str t441 2083),(.str t328 2084),(.str t611 2085)]⟩ 0),⟨[]⟩⟩
def y1243 (w : World) : Obj := ⟨(.type "tuple"),none,(.seq ⟨[]⟩ 0),⟨[]⟩⟩
def y1244 (w : World) : Obj := ⟨.none,none,(.func { name := t619, qualname := t633, params := defArgs (inClass (top 207) 11), body := .stmts (defBody (inClass (top 207) 11)), scope := defScope (inClass (top 207) 11), globals := 0, closure := [], defaults := .none, kwdefaults := .none, doc := .none, pyModule := .none, annotations := none, code := .none, closureTuple := .none, builtins := 0 }),⟨[]⟩⟩
def y1245 (w : World) : Obj := ⟨(.type "code"),none,(.fields ⟨[(.str t619 2079),(.str t633 2080),(.str t178 2081),(.int 959 0),(.int 2 0),(.int 0 0),(.int 0 0),(.int 3 0),(.ref 1240),(.bool true),(.int 370 0),(.ref 1241),.none,(.ref 1242),(.ref 1243),(.ref 1244),(.int 2086 0),(.int 959 0),(.str t178 2087)]⟩),⟨[]⟩⟩
def y1246 (w : World) : Obj := ⟨(.type "function"),none,(.func { name := t619, qualname := t633, params := defArgs (inClass (top 207) 11), body := .stmts (defBody (inClass (top 207) 11)), scope := defScope (inClass (top 207) 11), globals := 3, closure := [], defaults := .none, kwdefaults := .none, doc := .none, pyModule := (.str t620 1974), annotations := none, code := (.ref 1245), closureTuple := .none, builtins := 0 }),⟨[]⟩⟩
def y1247 (w : World) : Obj := ⟨(.type "tuple"),none,(.seq ⟨[(.str t634 2089),(.str t635 2090)]⟩ 0),⟨[]⟩⟩
def y1248 (w : World) : Obj := ⟨(.type "dict"),none,(.dict ⟨[⟨hs w t244,(.str t244 1983),(.str t620 1974)⟩,⟨hs w t245,(.str t245 1987),(.int 893 1986)⟩,⟨hs w t259,(.str t259 1994),(.ref 1169)⟩,⟨hs w t613,(.str t613 2004),(.ref 1176)⟩,⟨hs w t614,(.str t614 2013),(.ref 1183)⟩,⟨hs w t615,(.str t615 2022),(.ref 1190)⟩,⟨hs w t600,(.str t600 2030),(.ref 1197)⟩,⟨hs w t599,(.str t599 2039),(.ref 1204)⟩,⟨hs w t331,(.str t331 2046),(.ref 1211)⟩,⟨hs w t328,(.str t328 2054),(.ref 1218)⟩,⟨hs w t616,(.str t616 2061),(.ref 1225)⟩,⟨hs w t617,(.str t617 2069),(.ref 1232)⟩,⟨hs w t618,(.str t618 2078),(.ref 1239)⟩,⟨hs w t619,(.str t619 2088),(.ref 1246)⟩,⟨hs w t250,(.str t250 2091),(.ref 1247)⟩,⟨hs w t251,(.str t251 2093),(.ref 1250)⟩,⟨hs w t252,(.str t252 2095),(.ref 1251)⟩,⟨hs w t1,(.str t1 2096),.none⟩]⟩ 4),⟨[]⟩⟩
def y1249 (w : World) : Obj := ⟨(.type "type"),none,(.cls { name := t580, bases := [(.type "object")], mro := [(.ref 1249),(.type "object")], ns := 1248, qualname := t580, hasDict := true, slotNames := [], subclasses := [], abstract := false, collection := none, hasDel := false }),⟨[none,none,(some (.str t580 1976)),(some (.str t580 1984)),(some (.builtin "object.__new__")),(some (.bool true))]⟩⟩
def y1250 (w : World) : Obj := ⟨(.type "getset_descriptor"),none,(.fields ⟨[(.str t251 2092),(.ref 1249),(.builtin "function.__dict__"),(.builtin "function.__dict__#set")]⟩),⟨[]⟩⟩
def y1251 (w : World) : Obj := ⟨(.type "getset_descriptor"),none,(.fields ⟨[(.str t252 2094),(.ref 1249),(.builtin "ExceptionGroup.__weakref__"),.none]⟩),⟨[]⟩⟩
def y1252 (w : World) : Obj := ⟨(.type "super"),none,(.fields ⟨[(.ref 1249),(.ref 1249),(.ref 1249)]⟩),⟨[]⟩⟩
def y1253 (w : World) : Obj := ⟨(.type "builtin_function_or_method"),none,(.fields ⟨[(.builtin "object.__init_subclass__"),(.ref 1249)]⟩),⟨[]⟩⟩
def y1254 (w : World) : Obj := ⟨(.type "tuple"),none,(.seq ⟨[]⟩ 0),⟨[]⟩⟩
def y1255 (w : World) : Obj := ⟨.none,none,(.fields ⟨[]⟩),⟨[]⟩⟩
def y1256 (w : World) : Obj := ⟨.none,none,(.func { name := t581, qualname := t581, params := defArgs (top 209), body := .stmts (defBody (top 209)), scope := defScope (top 209), globals := 0, closure := [], defaults := .none, kwdefaults := .none, doc := .none, pyModule := .none, annotations := none, code := .none, closureTuple := .none, builtins := 0 }),⟨[]⟩⟩
def y1257 (w : World) : Obj := ⟨(.type "code"),none,(.fields ⟨[(.str t581 2101),(.str t581 2102),(.str t178 2103),(.int 965 0),(.int 1 0),(.int 0 0),(.int 0 0),(.int 3 0),(.ref 1254),(.bool true),(.int 370 0),(.ref 1255),.none,.none,.none,(.ref 1256),(.int 2104 0),(.int 965 0),(.str t178 2105)]⟩),⟨[]⟩⟩
def y1258 (w : World) : Obj := ⟨(.type "function"),none,(.func { name := t581, qualname := t581, params := defArgs (top 209), body := .stmts (defBody (top 209)), scope := defScope (top 209), globals := 3, closure := [], defaults := .none, kwdefaults := .none, doc := .none, pyModule := (.str t593 2099), annotations := none, code := (.ref 1257), closureTuple := .none, builtins := 0 }),⟨[]⟩⟩
def y1259 (w : World) : Obj := ⟨(.type "tuple"),none,(.seq ⟨[]⟩ 0),⟨[]⟩⟩
def y1260 (w : World) : Obj := ⟨.none,none,(.fields ⟨[]⟩),⟨[]⟩⟩
def y1261 (w : World) : Obj := ⟨(.type "tuple"),none,(.seq ⟨[(.str t636 2110),(.str t637 2111)]⟩ 0),⟨[]⟩⟩
def y1262 (w : World) : Obj := ⟨(.type "tuple"),none,(.seq ⟨[]⟩ 0),⟨[]⟩⟩
def y1263 (w : World) : Obj := ⟨.none,none,(.func { name := t582, qualname := t582, params := defArgs (top 210), body := .stmts (defBody (top 210)), scope := defScope (top 210), globals := 0, closure := [], defaults := .none, kwdefaults := .none, doc := .none, pyModule := .none, annotations := none, code := .none, closureTuple := .none, builtins := 0 }),⟨[]⟩⟩
def y1264 (w : World) : Obj := ⟨(.type "code"),none,(.fields ⟨[(.str t582 2107),(.str t582 2108),(.str t178 2109),(.int 968 0),(.int 1 0),(.int 0 0),(.int 0 0),(.int 3 0),(.ref 1259),(.bool true),(.int 370 0),(.ref 1260),.none,(.ref 1261),(.ref 1262),(.ref 1263),(.int 2112 0),(.int 968 0),(.str t178 2113)]⟩),⟨[]⟩⟩
def y1265 (w : World) : Obj := ⟨(.type "function"),none,(.func { name := t582, qualname := t582, params := defArgs (top 210), body := .stmts (defBody (top 210)), scope := defScope (top 210), globals := 3, closure := [], defaults := .none, kwdefaults := .none, doc := .none, pyModule := (.str t593 2099), annotations := none, code := (.ref 1264), closureTuple := .none, builtins := 0 }),⟨[]⟩⟩
def y1266 (w : World) : Obj := ⟨(.type "tuple"),none,(.seq ⟨[]⟩ 0),⟨[]⟩⟩
def y1267 (w : World) : Obj := ⟨.none,none,(.fields ⟨[]⟩),⟨[]⟩⟩
def y1268 (w : World) : Obj := ⟨(.type "tuple"),none,(.seq ⟨[(.str t636 2118),(.str t553 2119),(.str t637 2120),(.str t443 2121),(.str t555 2122),(.str t638 2123),(.str t444 2124),(.str t639 2125),(.str t640 2126),(.str t641 2127)]⟩ 0),⟨[]⟩⟩
def y1269 (w : World) : Obj := ⟨(.type "tuple"),none,(.seq ⟨[]⟩ 0),⟨[]⟩⟩
def y1270 (w : World) : Obj := ⟨.none,none,(.func { name := t583, qualname := t583, params := defArgs (top 211), body := .stmts (defBody (top 211)), scope := defScope (top 211), globals := 0, closure := [], defaults := .none, kwdefaults := .none, doc := .none, pyModule := .none, annotations := none, code := .none, closureTuple := .none, builtins := 0 }),⟨[]⟩⟩
def y1271 (w : World) : Obj := ⟨(.type "code"),none,(.fields ⟨[(.str t583 2115),(.str t583 2116),(.str t178 2117),(.int 973 0),(.int 2 0),(.int 0 0),(.int 0 0),(.int 3 0),(.ref 1266),(.bool true),(.int 370 0),(.ref 1267),.none,(.ref 1268),(.ref 1269),(.ref 1270),(.int 2128 0),(.int 973 0),(.str t178 2129)]⟩),⟨[]⟩⟩
def y1272 (w : World) : Obj := ⟨(.type "function"),none,(.func { name := t583, qualname := t583, params := defArgs (top 211), body := .stmts (defBody (top 211)), scope := defScope (top 211), globals := 3, closure := [], defaults := .none, kwdefaults := .none, doc := .none, pyModule := (.str t593 2099), annotations := none, code := (.ref 1271), closureTuple := .none, builtins := 0 }),⟨[]⟩⟩
def y1273 (w : World) : Obj := ⟨(.type "tuple"),none,(.seq ⟨[]⟩ 0),⟨[]⟩⟩
def y1274 (w : World) : Obj := ⟨.none,none,(.fields ⟨[]⟩),⟨[]⟩⟩
def y1275 (w : World) : Obj := ⟨(.type "tuple"),none,(.seq ⟨[(.str t636 2134),(.str t324 2135),(.str t325 2136),(.str t395 2137),(.str t327 2138),(.str t444 2139),(.str t402 2140)]⟩ 0),⟨[]⟩⟩
def y1276 (w : World) : Obj := ⟨(.type "tuple"),none,(.seq ⟨[]⟩ 0),⟨[]⟩⟩
def y1277 (w : World) : Obj := ⟨.none,none,(.func { name := t584, qualname := t584, params := defArgs (top 212), body := .stmts (defBody (top 212)), scope := defScope (top 212), globals := 0, closure := [], defaults := .none, kwdefaults := .none, doc := .none, pyModule := .none, annotations := none, code := .none, closureTuple := .none, builtins := 0 }),⟨[]⟩⟩
def y1278 (w : World) : Obj := ⟨(.type "code"),none,(.fields ⟨[(.str t584 2131),(.str t584 2132),(.str t178 2133),(.int 990 0),(.int 1 0),(.int 0 0),(.int 0 0),(.int 3 0),(.ref 1273),(.bool true),(.int 370 0),(.ref 1274),.none,(.ref 1275),(.ref 1276),(.ref 1277),(.int 2141 0),(.int 990 0),(.str t178 2142)]⟩),⟨[]⟩⟩
def y1279 (w : World) : Obj := ⟨(.type "function"),none,(.func { name := t584, qualname := t584, params := defArgs (top 212), body := .stmts (defBody (top 212)), scope := defScope (top 212), globals := 3, closure := [], defaults := .none, kwdefaults := .none, doc := .none, pyModule := (.str t593 2099), annotations := none, code := (.ref 1278), closureTuple := .none, builtins := 0 }),⟨[]⟩⟩
def y1280 (w : World) : Obj := ⟨(.type "tuple"),none,(.seq ⟨[]⟩ 0),⟨[]⟩⟩
def y1281 (w : World) : Obj := ⟨.none,none,(.fields ⟨[]⟩),⟨[]⟩⟩
def y1282 (w : World) : Obj := ⟨(.type "tuple"),none,(.seq ⟨[(.str t636 2147),(.str t322 2148),(.str t642 2149),(.str t332 2150),(.str t444 2151),(.str t443 2152)]⟩ 0),⟨[]⟩⟩
def y1283 (w : World) : Obj := ⟨(.type "tuple"),none,(.seq ⟨[]⟩ 0),⟨[]⟩⟩
def y1284 (w : World) : Obj := ⟨.none,none,(.func { name := t585, qualname := t585, params := defArgs (top 213), body := .stmts (defBody (top 213)), scope := defScope (top 213), globals := 0, closure := [], defaults := .none, kwdefaults := .none, doc := .none, pyModule := .none, annotations := none, code := .none, closureTuple := .none, builtins := 0 }),⟨[]⟩⟩
def y1285 (w : World) : Obj := ⟨(.type "code"),none,(.fields ⟨[(.str t585 2144),(.str t585 2145),(.str t178 2146),(.int 998 0),(.int 3 0),(.int 0 0),(.int 0 0),(.int 3 0),(.ref 1280),(.bool true),(.int 370 0),(.ref 1281),.none,(.ref 1282),(.ref 1283),(.ref 1284),(.int 2153 0),(.int 998 0),(.str t178 2154)]⟩),⟨[]⟩⟩
def y1286 (w : World) : Obj := ⟨(.type "function"),none,(.func { name := t585, qualname := t585, params := defArgs (top 213), body := .stmts (defBody (top 213)), scope := defScope (top 213), globals := 3, closure := [], defaults := .none, kwdefaults := .none, doc := .none, pyModule := (.str t593 2099), annotations := none, code := (.ref 1285), closureTuple := .none, builtins := 0 }),⟨[]⟩⟩
def y1287 (w : World) : Obj := ⟨(.type "tuple"),none,(.seq ⟨[]⟩ 0),⟨[]⟩⟩
def y1288 (w : World) : Obj := ⟨.none,none,(.fields ⟨[]⟩),⟨[]⟩⟩
def y1289 (w : World) : Obj := ⟨.none,none,(.func { name := t586, qualname := t586, params := defArgs (top 214), body := .stmts (defBody (top 214)), scope := defScope (top 214), globals := 0, closure := [], defaults := .none, kwdefaults := .none, doc := .none, pyModule := .none, annotations := none, code := .none, closureTuple := .none, builtins := 0 }),⟨[]⟩⟩
def y1290 (w : World) : Obj := ⟨(.type "code"),none,(.fields ⟨[(.str t586 2156),(.str t586 2157),(.str t178 2158),(.int 1004 0),(.int 1 0),(.int 0 0),(.int 0 0),(.int 3 0),(.ref 1287),(.bool true),(.int 370 0),(.ref 1288),.none,.none,.none,(.ref 1289),(.int 2159 0),(.int 1004 0),(.str t178 2160)]⟩),⟨[]⟩⟩
def y1291 (w : World) : Obj := ⟨(.type "function"),none,(.func { name := t586, qualname := t586, params := defArgs (top 214), body := .stmts (defBody (top 214)), scope := defScope (top 214), globals := 3, closure := [], defaults := .none, kwdefaults := .none, doc := .none, pyModule := (.str t593 2099), annotations := none, code := (.ref 1290), closureTuple := .none, builtins := 0 }),⟨[]⟩⟩
def y1292 (w : World) : Obj := ⟨(.type "tuple"),none,(.seq ⟨[]⟩ 0),⟨[]⟩⟩
def y1293 (w : World) : Obj := ⟨.none,none,(.fields ⟨[]⟩),⟨[]⟩⟩
def y1294 (w : World) : Obj := ⟨(.type "tuple"),none,(.seq ⟨[(.str t643 2165),(.str t609 2166),(.str t296 2167)]⟩ 0),⟨[]⟩⟩
def y1295 (w : World) : Obj := ⟨(.type "tuple"),none,(.seq ⟨[]⟩ 0),⟨[]⟩⟩
def y1296 (w : World) : Obj := ⟨.none,none,(.func { name := t587, qualname := t587, params := defArgs (top 215), body := .stmts (defBody (top 215)), scope := defScope (top 215), globals := 0, closure := [], defaults := .none, kwdefaults := .none, doc := .none, pyModule := .none, annotations := none, code := .none, closureTuple := .none, builtins := 0 }),⟨[]⟩⟩
def y1297 (w : World) : Obj := ⟨(.type "code"),none,(.fields ⟨[(.str t587 2162),(.str t587 2163),(.str t178 2164),(.int 1015 0),(.int 3 0),(.int 0 0),(.int 0 0),(.int 3 0),(.ref 1292),(.bool true),(.int 370 0),(.ref 1293),.none,(.ref 1294),(.ref 1295),(.ref 1296),(.int 2168 0),(.int 1015 0),(.str t178 2169)]⟩),⟨[]⟩⟩
def y1298 (w : World) : Obj := ⟨(.type "function"),none,(.func { name := t587, qualname := t587, params := defArgs (top 215), body := .stmts (defBody (top 215)), scope := defScope (top 215), globals := 3, closure := [], defaults := .none, kwdefaults := .none, doc := .none, pyModule := (.str t593 2099), annotations := none, code := (.ref 1297), closureTuple := .none, builtins := 0 }),⟨[]⟩⟩
def y1299 (w : World) : Obj := ⟨(.type "tuple"),none,(.seq ⟨[]⟩ 0),⟨[]⟩⟩
def y1300 (w : World) : Obj := ⟨.none,none,(.fields ⟨[]⟩),⟨[]⟩⟩
def y1301 (w : World) : Obj := ⟨(.type "tuple"),none,(.seq ⟨[]⟩ 0),⟨[]⟩⟩
def y1302 (w : World) : Obj := ⟨(.type "tuple"),none,(.seq ⟨[]⟩ 0),⟨[]⟩⟩
def y1303 (w : World) : Obj := ⟨.none,none,(.func { name := t588, qualname := t588, params := defArgs (top 216), body := .stmts (defBody (top 216)), scope := defScope (top 216), globals := 0, closure := [], defaults := .none, kwdefaults := .none, doc := .none, pyModule := .none, annotations := none, code := .none, closureTuple := .none, builtins := 0 }),⟨[]⟩⟩
def y1304 (w : World) : Obj := ⟨(.type "code"),none,(.fields ⟨[(.str t588 2171),(.str t588 2172),(.str t178 2173),(.int 1019 0),(.int 0 0),(.int 0 0),(.int 0 0),(.int 3 0),(.ref 1299),(.bool true),(.int 370 0),(.ref 1300),.none,(.ref 1301),(.ref 1302),(.ref 1303),(.int 2174 0),(.int 1019 0),(.str t178 2175)]⟩),⟨[]⟩⟩
def y1305 (w : World) : Obj := ⟨(.type "function"),none,(.func { name := t588, qualname := t588, params := defArgs (top 216), body := .stmts (defBody (top 216)), scope := defScope (top 216), globals := 3, closure := [], defaults := .none, kwdefaults := .none, doc := .none, pyModule := (.str t593 2099), annotations := none, code := (.ref 1304), closureTuple := .none, builtins := 0 }),⟨[]⟩⟩
def y1306 (w : World) : Obj := ⟨(.type "tuple"),none,(.seq ⟨[]⟩ 0),⟨[]⟩⟩
def y1307 (w : World) : Obj := ⟨.none,none,(.fields ⟨[]⟩),⟨[]⟩⟩
def y1308 (w : World) : Obj := ⟨(.type "tuple"),none,(.seq ⟨[(.str t636 2180),(.str t328 2181),(.str t324 2182),(.str t325 2183),(.str t326 2184),(.str t327 2185),(.str t423 2186),(.str t644 2187)]⟩ 0),⟨[]⟩⟩
def y1309 (w : World) : Obj := ⟨(.type "tuple"),none,(.seq ⟨[]⟩ 0),⟨[]⟩⟩
def y1310 (w : World) : Obj := ⟨.none,none,(.func { name := t589, qualname := t589, params := defArgs (top 217), body := .stmts (defBody (top 217)), scope := defScope (top 217), globals := 0, closure := [], defaults := .none, kwdefaults := .none, doc := .none, pyModule := .none, annotations := none, code := .none, closureTuple := .none, builtins := 0 }),⟨[]⟩⟩
def y1311 (w : World) : Obj := ⟨(.type "code"),none,(.fields ⟨[(.str t589 2177),(.str t589 2178),(.str t178 2179),(.int 1021 0),(.int 2 0),(.int 0 0),(.int 0 0),(.int 3 0),(.ref 1306),(.bool true),(.int 370 0),(.ref 1307),.none,(.ref 1308),(.ref 1309),(.ref 1310),(.int 2188 0),(.int 1021 0),(.str t178 2189)]⟩),⟨[]⟩⟩
def y1312 (w : World) : Obj := ⟨(.type "function"),none,(.func { name := t589, qualname := t589, params := defArgs (top 217), body := .stmts (defBody (top 217)), scope := defScope (top 217), globals := 3, closure := [], defaults := .none, kwdefaults := .none, doc := .none, pyModule := (.str t593 2099), annotations := none, code := (.ref 1311), closureTuple := .none, builtins := 0 }),⟨[]⟩⟩
def y1313 (w : World) : Obj := ⟨(.type "tuple"),none,(.seq ⟨[]⟩ 0),⟨[]⟩⟩
def y1314 (w : World) : Obj := ⟨.none,none,(.fields ⟨[]⟩),⟨[]⟩⟩
def y1315 (w : World) : Obj := ⟨(.type "tuple"),none,(.seq ⟨[(.str t645 2194),(.str t646 2195),(.str t242 2196),(.str t328 2197),(.str t647 2198)]⟩ 0),⟨[]⟩⟩
def y1316 (w : World) : Obj := ⟨(.type "tuple"),none,(.seq ⟨[]⟩ 0),⟨[]⟩⟩
def y1317 (w : World) : Obj := ⟨.none,none,(.func { name := t590, qualname := t590, params := defArgs (top 218), body := .stmts (defBody (top 218)), scope := defScope (top 218), globals := 0, closure := [], defaults := .none, kwdefaults := .none, doc := .none, pyModule := .none, annotations := none, code := .none, closureTuple := .none, builtins := 0 }),⟨[]⟩⟩
def y1318 (w : World) : Obj := ⟨(.type "code"),none,(.fields ⟨[(.str t590 2191),(.str t590 2192),(.str t178 2193),(.int 1033 0),(.int 5 0),(.int 0 0),(.int 0 0),(.int 3 0),(.ref 1313),(.bool true),(.int 370 0),(.ref 1314),.none,(.ref 1315),(.ref 1316),(.ref 1317),(.int 2199 0),(.int 1033 0),(.str t178 2200)]⟩),⟨[]⟩⟩
def y1319 (w : World) : Obj := ⟨(.type "function"),none,(.func { name := t590, qualname := t590, params := defArgs (top 218), body := .stmts (defBody (top 218)), scope := defScope (top 218), globals := 3, closure := [], defaults := .none, kwdefaults := .none, doc := .none, pyModule := (.str t593 2099), annotations := none, code := (.ref 1318), closureTuple := .none, builtins := 0 }),⟨[]⟩⟩
def y1320 (w : World) : Obj := ⟨(.type "tuple"),none,(.seq ⟨[]⟩ 0),⟨[]⟩⟩
def y1321 (w : World) : Obj := ⟨.none,none,(.fields ⟨[]⟩),⟨[]⟩⟩
def y1322 (w : World) : Obj := ⟨(.type "tuple"),none,(.seq ⟨[(.str t645 2205),(.str t646 2206),(.str t242 2207),(.str t328 2208),(.str t647 2209),(.str t609 2210),(.str t643 2211),(.str t236 2212)]⟩ 0),⟨[]⟩⟩
def y1323 (w : World) : Obj := ⟨(.type "tuple"),none,(.seq ⟨[]⟩ 0),⟨[]⟩⟩
def y1324 (w : World) : Obj := ⟨.none,none,(.func { name := t591, qualname := t591, params := defArgs (top 219), body := .stmts (defBody (top 219)), scope := defScope (top 219), globals := 0, closure := [], defaults := .none, kwdefaults := .none, doc := .none, pyModule := .none, annotations := none, code := .none, closureTuple := .none, builtins := 0 }),⟨[]⟩⟩
def y1325 (w : World) : Obj := ⟨(.type "code"),none,(.fields ⟨[(.str t591 2202),(.str t591 2203),(.str t178 2204),(.int 1039 0),(.int 6 0),(.int 0 0),(.int 0 0),(.int 3 0),(.ref 1320),(.bool true),(.int 370 0),(.ref 1321),.none,(.ref 1322),(.ref 1323),(.ref 1324),(.int 2213 0),(.int 1039 0),(.str t178 2214)]⟩),⟨[]⟩⟩
def y1326 (w : World) : Obj := ⟨(.type "function"),none,(.func { name := t591, qualname := t591, params := defArgs (top 219), body := .stmts (defBody (top 219)), scope := defScope (top 219), globals := 3, closure := [], defaults := .none, kwdefaults := .none, doc := .none, pyModule := (.str t593 2099), annotations := none, code := (.ref 1325), closureTuple := .none, builtins := 0 }),⟨[]⟩⟩
def y1327 (w : World) : Obj := ⟨(.type "tuple"),none,(.seq ⟨[]⟩ 0),⟨[]⟩⟩
def y1328 (w : World) : Obj := ⟨.none,none,(.fields ⟨[]⟩),⟨[]⟩⟩
def y1329 (w : World) : Obj := ⟨.none,none,(.func { name := t592, qualname := t592, params := defArgs (top 220), body := .stmts (defBody (top 220)), scope := defScope (top 220), globals := 0, closure := [], defaults := .none, kwdefaults := .none, doc := .none, pyModule := .none, annotations := none, code := .none, closureTuple := .none, builtins := 0 }),⟨[]⟩⟩
def y1330 (w : World) : Obj := ⟨(.type "code"),none,(.fields ⟨[(.str t592 2216),(.str t592 2217),(.str t178 2218),(.int 1046 0),(.int 1 0),(.int 0 0),(.int 0 0),(.int 3 0),(.ref 1327),(.bool true),(.int 370 0),(.ref 1328),.none,.none,.none,(.ref 1329),(.int 2219 0),(.int 1046 0),(.str t178 2220)]⟩),⟨[]⟩⟩
def y1331 (w : World) : Obj := ⟨(.type "function"),none,(.func { name := t592, qualname := t592, params := defArgs (top 220), body := .stmts (defBody (top 220)), scope := defScope (top 220), globals := 3, closure := [], defaults := .none, kwdefaults := .none, doc := .none, pyModule := (.str t593 2099), annotations := none, code := (.ref 1330), closureTuple := .none, builtins := 0 }),⟨[]⟩⟩
def tree5 (w : World) : PySem.W.BT := (.node (y0 w) (.node (y1 w) (.node (y3_5 w) (.node (y7 w) (.node (y15 w) (.node (y31 w) (.node (y63 w) (.node (y127 w) (.node (y255 w) (.node (y511 w) (.node (y1023 w) .nil .nil) .nil) (.node (y767 w) (.node (y1279 w) .nil .nil) .nil)) (.node (y383 w) (.node (y639 w) (.node (y1151 w) .nil .nil) .nil) (.node (y895 w) .nil .nil))) (.node (y191 w) (.node (y319 w) (.node (y575 w) (.node (y1087 w) .nil .nil) .nil) (.node (y831 w) .nil .nil)) (.node (y447 w) (.node (y703 w) (.node (y1215 w) .nil .nil) .nil) (.node (y959 w) .nil .nil)))) (.node (y95 w) (.node (y159 w) (.node (y287 w) (.node (y543 w) (.node (y1055 w) .nil .nil) .nil) (.node (y799 w) (.node (y1311 w) .nil .nil) .nil)) (.node (y415 w) (.node (y671 w) (.node (y1183 w) .nil .nil) .nil) (.node (y927 w) .nil .nil))) (.node (y223 w) (.node (y351 w) (.node (y607 w) (.node (y1119 w) .nil .nil) .nil) (.node (y863 w) .nil .nil)) (.node (y479 w) (.node (y735 w) (.node (y1247 w) .nil .nil) .nil) (.node (y991 w) .nil .nil))))) (.node (y47 w) (.node (y79 w) (.node (y143 w) (.node (y271 w) (.node (y527 w) (.node (y1039 w) .nil .nil) .nil) (.node (y783 w) (.node (y1295 w) .nil .nil) .nil)) (.node (y399 w) (.node (y655 w) (.node (y1167 w) .nil .nil) .nil) (.node (y911 w) .nil .nil))) (.node (y207 w) (.node (y335 w) (.node (y591 w) (.node (y1103 w) .nil .nil) .nil) (.node (y847 w) .nil .nil)) (.node (y463 w) (.node (y719 w) (.node (y1231 w) .nil .nil) .nil) (.node (y975 w) .nil .nil)))) (.node (y111 w) (.node (y175 w) (.node (y303 w) (.node (y559 w) (.node (y1071 w) .nil .nil) .nil) (.node (y815 w) (.node (y1327 w) .nil .nil) .nil)) (.node (y431 w) (.node (y687 w) (.node (y1199 w) .nil .nil) .nil) (.node (y943 w) .nil .nil))) (.node (y239 w) (.node (y367 w) (.node (y623 w) (.node (y1135 w) .nil .nil) .nil) (.node (y879 w) .nil .nil)) (.node (y495 w) (.node (y751 w) (.node (y1263 w) .nil .nil) .nil) (.node (y1007 w) .nil .nil)))))) (.node (y23 w) (.node (y39 w) (.node (y71 w) (.node (y135 w) (.node (y263 w) (.node (y519 w) (.node (y1031 w) .nil .nil) .nil) (.node (y775 w) (.node (y1287 w) .nil .nil) .nil)) (.node (y391 w) (.node (y647 w) (.node (y1159 w) .nil .nil) .nil) (.node (y903 w) .nil .nil))) (.node (y199 w) (.node (y327 w) (.node (y583 w) (.node (y1095 w) .nil .nil) .nil) (.node (y839 w) .nil .nil)) (.node (y455 w) (.node (y711 w) (.node (y1223 w) .nil .nil) .nil) (.node (y967 w) .nil .nil)))) (.node (y103 w) (.node (y167 w) (.node (y295 w) (.node (y551 w) (.node (y1063 w) .nil .nil) .nil) (.node (y807 w) (.node (y1319 w) .nil .nil) .nil)) (.node (y423 w) (.node (y679 w) (.node (y1191 w) .nil .nil) .nil) (.node (y935 w) .nil .nil))) (.node (y231 w) (.node (y359 w) (.node (y615 w) (.node (y1127 w) .nil .nil) .nil) (.node (y871 w) .nil .nil)) (.node (y487 w) (.node (y743 w) (.node (y1255 w) .nil .nil) .nil) (.node (y999 w) .nil .nil))))) (.node (y55 w) (.node (y87 w) (.node (y151 w) (.node (y279 w) (.node (y535 w) (.node (y1047 w) .nil .nil) .nil) (.node (y791 w) (.node (y1303 w) .nil .nil) .nil)) (.node (y407 w) (.node (y663 w) (.node (y1175 w) .nil .nil) .nil) (.node (y919 w) .nil .nil))) (.node (y215 w) (.node (y343 w) (.node (y599 w) (.node (y1111 w) .nil .nil) .nil) (.node (y855 w) .nil .nil)) (.node (y471 w) (.node (y727 w) (.node (y1239 w) .nil .nil) .nil) (.node (y983 w) .nil .nil)))) (.node (y119 w) (.node (y183 w) (.node (y311 w) (.node (y567 w) (.node (y1079 w) .nil .nil) .nil) (.node (y823 w) .nil .nil)) (.node (y439 w) (.node (y695 w) (.node (y1207 w) .nil .nil) .nil) (.node (y951 w) .nil .nil))) (.node (y247 w) (.node (y375 w) (.node (y631 w) (.node (y1143 w) .nil .nil) .nil) (.node (y887 w) .nil .nil)) (.node (y503 w) (.node (y759 w) (.node (y1271 w) .nil .nil) .nil) (.node (y1015 w) .nil .nil))))))) (.node (y11 w) (.node (y19 w) (.node (y35 w) (.node (y67 w) (.node (y131 w) (.node (y259 w) (.node (y515 w) (.node (y1027 w) .nil .nil) .nil) (.node (y771 w) (.node (y1283 w) .nil .nil) .nil)) (.node (y387 w) (.node (y643 w) (.node (y1155 w) .nil .nil) .nil) (.node (y899 w) .nil .nil))) (.node (y195 w) (.node (y323 w) (.node (y579 w) (.node (y1091 w) .nil .nil) .nil) (.node (y835 w) .nil .nil)) (.node (y451 w) (.node (y707 w) (.node (y1219 w) .nil .nil) .nil) (.node (y963 w) .nil .nil)))) (.node (y99 w) (.node (y163 w) (.node (y291 w) (.node (y547 w) (.node (y1059 w) .nil .nil) .nil) (.node (y803 w) (.node (y1315 w) .nil .nil) .nil)) (.node (y419 w) (.node (y675 w) (.node (y1187 w) .nil .nil) .nil) (.node (y931 w) .nil .nil))) (.node (y227 w) (.node (y355 w) (.node (y611 w) (.node (y1123 w) .nil .nil) .nil) (.node (y867 w) .nil .nil)) (.node (y483 w) (.node (y739 w) (.node (y1251 w) .nil .nil) .nil) (.node (y995 w) .nil .nil))))) (.node (y51 w) (.node (y83 w) (.node (y147 w) (.node (y275 w) (.node (y531 w) (.node (y1043 w) .nil .nil) .nil) (.node (y787 w) (.node (y1299 w) .nil .nil) .nil)) (.node (y403 w) (.node (y659 w) (.node (y1171 w) .nil .nil) .nil) (.node (y915 w) .nil .nil))) (.node (y211 w) (.node (y339 w) (.node (y595 w) (.node (y1107 w) .nil .nil) .nil) (.node (y851 w) .nil .nil)) (.node (y467 w) (.node (y723 w) (.node (y1235 w) .nil .nil) .nil) (.node (y979 w) .nil .nil)))) (.node (y115 w) (.node (y179 w) (.node (y307 w) (.node (y563 w) (.node (y1075 w) .nil .nil) .nil) (.node (y819 w) (.node (y1331 w) .nil .nil) .nil)) (.node (y435 w) (.node (y691 w) (.node (y1203 w) .nil .nil) .nil) (.node (y947 w) .nil .nil))) (.node (y243 w) (.node (y371 w) (.node (y627 w) (.node (y1139 w) .nil .nil) .nil) (.node (y883 w) .nil .nil)) (.node (y499 w) (.node (y755 w) (.node (y1267 w) .nil .nil) .nil) (.node (y1011 w) .nil .nil)))))) (.node (y27 w) (.node (y43 w) (.node (y75 w) (.node (y139 w) (.node (y267 w) (.node (y523 w) (.node (y1035 w) .nil .nil) .nil) (.node (y779 w) (.node (y1291 w) .nil .nil) .nil)) (.node (y395 w) (.node (y651 w) (.node (y1163 w) .nil .nil) .nil) (.node (y907 w) .nil .nil))) (.node (y203 w) (.node (y331 w) (.node (y587 w) (.node (y1099 w) .nil .nil) .nil) (.node (y843 w) .nil .nil)) (.node (y459 w) (.node (y715 w) (.node (y1227 w) .nil .nil) .nil) (.node (y971 w) .nil .nil)))) (.node (y107 w) (.node (y171 w) (.node (y299 w) (.node (y555 w) (.node (y1067 w) .nil .nil) .nil) (.node (y811 w) (.node (y1323 w) .nil .nil) .nil)) (.node (y427 w) (.node (y683 w) (.node (y1195 w) .nil .nil) .nil) (.node (y939 w) .nil .nil))) (.node (y235 w) (.node (y363 w) (.node (y619 w) (.node (y1131 w) .nil .nil) .nil) (.node (y875 w) .nil .nil)) (.node (y491 w) (.node (y747 w) (.node (y1259 w) .nil .nil) .nil) (.node (y1003 w) .nil .nil))))) (.node (y59_1 w) (.node (y91 w) (.node (y155 w) (.node (y283 w) (.node (y539 w) (.node (y1051 w) .nil .nil) .nil) (.node (y795 w) (.node (y1307 w) .nil .nil) .nil)) (.node (y411 w) (.node (y667 w) (.node (y1179 w) .nil .nil) .nil) (.node (y923 w) .nil .nil))) (.node (y219 w) (.node (y347 w) (.node (y603 w) (.node (y1115 w) .nil .nil) .nil) (.node (y859 w) .nil .nil)) (.node (y475 w) (.node (y731 w) (.node (y1243 w) .nil .nil) .nil) (.node (y987 w) .nil .nil)))) (.node (y123 w) (.node (y187 w) (.node (y315 w) (.node (y571 w) (.node (y1083 w) .nil .nil) .nil) (.node (y827 w) .nil .nil)) (.node (y443 w) (.node (y699 w) (.node (y1211 w) .nil .nil) .nil) (.node (y955 w) .nil .nil))) (.node (y251 w) (.node (y379 w) (.node (y635 w) (.node (y1147 w) .nil .nil) .nil) (.node (y891 w) .nil .nil)) (.node (y507 w) (.node (y763 w) (.node (y1275 w) .nil .nil) .nil) (.node (y1019 w) .nil .nil)))))))) (.node (y5 w) (.node (y9 w) (.node (y17 w) (.node (y33 w) (.node (y65 w) (.node (y129 w) (.node (y257 w) (.node (y513 w) (.node (y1025 w) .nil .nil) .nil) (.node (y769 w) (.node (y1281 w) .nil .nil) .nil)) (.node (y385 w) (.node (y641 w) (.node (y1153 w) .nil .nil) .nil) (.node (y897 w) .nil .nil))) (.node (y193 w) (.node (y321 w) (.node (y577 w) (.node (y1089 w) .nil .nil) .nil) (.node (y833 w) .nil .nil)) (.node (y449 w) (.node (y705 w) (.node (y1217 w) .nil .nil) .nil) (.node (y961 w) .nil .nil)))) (.node (y97 w) (.node (y161 w) (.node (y289 w) (.node (y545 w) (.node (y1057 w) .nil .nil) .nil) (.node (y801 w) (.node (y1313 w) .nil .nil) .nil)) (.node (y417 w) (.node (y673 w) (.node (y1185 w) .nil .nil) .nil) (.node (y929 w) .nil .nil))) (.node (y225 w) (.node (y353 w) (.node (y609 w) (.node (y1121 w) .nil .nil) .nil) (.node (y865 w) .nil .nil)) (.node (y481 w) (.node (y737 w) (.node (y1249 w) .nil .nil) .nil) (.node (y993 w) .nil .nil))))) (.node (y49 w) (.node (y81 w) (.node (y145 w) (.node (y273 w) (.node (y529 w) (.node (y1041 w) .nil .nil) .nil) (.node (y785 w) (.node (y1297 w) .nil .nil) .nil)) (.node (y401 w) (.node (y657 w) (.node (y1169 w) .nil .nil) .nil) (.node (y913 w) .nil .nil))) (.node (y209 w) (.node (y337 w) (.node (y593 w) (.node (y1105 w) .nil .nil) .nil) (.node (y849 w) .nil .nil)) (.node (y465 w) (.node (y721 w) (.node (y1233 w) .nil .nil) .nil) (.node (y977 w) .nil .nil)))) (.node (y113 w) (.node (y177 w) (.node (y305 w) (.node (y561 w) (.node (y1073 w) .nil .nil) .nil) (.node (y817 w) (.node (y1329 w) .nil .nil) .nil)) (.node (y433 w) (.node (y689 w) (.node (y1201 w) .nil .nil) .nil) (.node (y945 w) .nil .nil))) (.node (y241 w) (.node (y369 w) (.node (y625 w) (.node (y1137 w) .nil .nil) .nil) (.node (y881 w) .nil .nil)) (.node (y497 w) (.node (y753 w) (.node (y1265 w) .nil .nil) .nil) (.node (y1009 w) .nil .nil)))))) (.node (y25 w) (.node (y41 w) (.node (y73 w) (.node (y137 w) (.node (y265 w) (.node (y521 w) (.node (y1033 w) .nil .nil) .nil) (.node (y777 w) (.node (y1289 w) .nil .nil) .nil)) (.node (y393 w) (.node (y649 w) (.node (y1161 w) .nil .nil) .nil) (.node (y905 w) .nil .nil))) (.node (y201 w) (.node (y329 w) (.node (y585 w) (.node (y1097 w) .nil .nil) .nil) (.node (y841 w) .nil .nil)) (.node (y457 w) (.node (y713 w) (.node (y1225 w) .nil .nil) .nil) (.node (y969 w) .nil .nil)))) (.node (y105 w) (.node (y169 w) (.node (y297 w) (.node (y553 w) (.node (y1065 w) .nil .nil) .nil) (.node (y809 w) (.node (y1321 w) .nil .nil) .nil)) (.node (y425 w) (.node (y681 w) (.node (y1193 w) .nil .nil) .nil) (.node (y937 w) .nil .nil))) (.node (y233 w) (.node (y361 w) (.node (y617 w) (.node (y1129 w) .nil .nil) .nil) (.node (y873 w) .nil .nil)) (.node (y489 w) (.node (y745 w) (.node (y1257 w) .nil .nil) .nil) (.node (y1001 w) .nil .nil))))) (.node (y57 w) (.node (y89 w) (.node (y153 w) (.node (y281 w) (.node (y537 w) (.node (y1049 w) .nil .nil) .nil) (.node (y793 w) (.node (y1305 w) .nil .nil) .nil)) (.node (y409 w) (.node (y665 w) (.node (y1177 w) .nil .nil) .nil) (.node (y921 w) .nil .nil))) (.node (y217 w) (.node (y345 w) (.node (y601 w) (.node (y1113 w) .nil .nil) .nil) (.node (y857 w) .nil .nil)) (.node (y473 w) (.node (y729 w) (.node (y1241 w) .nil .nil) .nil) (.node (y985 w) .nil .nil)))) (.node (y121 w) (.node (y185 w) (.node (y313 w) (.node (y569 w) (.node (y1081 w) .nil .nil) .nil) (.node (y825 w) .nil .nil)) (.node (y441 w) (.node (y697 w) (.node (y1209 w) .nil .nil) .nil) (.node (y953 w) .nil .nil))) (.node (y249 w) (.node (y377 w) (.node (y633 w) (.node (y1145 w) .nil .nil) .nil) (.node (y889 w) .nil .nil)) (.node (y505 w) (.node (y761 w) (.node (y1273 w) .nil .nil) .nil) (.node (y1017 w) .nil .nil))))))) (.node (y13 w) (.node (y21 w) (.node (y37 w) (.node (y69 w) (.node (y133 w) (.node (y261 w) (.node (y517 w) (.node (y1029 w) .nil .nil) .nil) (.node (y773 w) (.node (y1285 w) .nil .nil) .nil)) (.node (y389 w) (.node (y645 w) (.node (y1157 w) .nil .nil) .nil) (.node (y901 w) .nil .nil))) (.node (y197 w) (.node (y325 w) (.node (y581 w) (.node (y1093 w) .nil .nil) .nil) (.node (y837 w) .nil .nil)) (.node (y453 w) (.node (y709 w) (.node (y1221 w) .nil .nil) .nil) (.node (y965 w) .nil .nil)))) (.node (y101 w) (.node (y165 w) (.node (y293 w) (.node (y549 w) (.node (y1061 w) .nil .nil) .nil) (.node (y805 w) (.node (y1317 w) .nil .nil) .nil)) (.node (y421 w) (.node (y677 w) (.node (y1189 w) .nil .nil) .nil) (.node (y933 w) .nil .nil))) (.node (y229 w) (.node (y357 w) (.node (y613 w) (.node (y1125 w) .nil .nil) .nil) (.node (y869 w) .nil .nil)) (.node (y485 w) (.node (y741 w) (.node (y1253 w) .nil .nil) .nil) (.node (y997 w) .nil .nil))))) (.node (y53 w) (.node (y85 w) (.node (y149 w) (.node (y277 w) (.node (y533 w) (.node (y1045 w) .nil .nil) .nil) (.node (y789 w) (.node (y1301 w) .nil .nil) .nil)) (.node (y405 w) (.node (y661 w) (.node (y1173 w) .nil .nil) .nil) (.node (y917 w) .nil .nil))) (.node (y213 w) (.node (y341 w) (.node (y597 w) (.node (y1109 w) .nil .nil) .nil) (.node (y853 w) .nil .nil)) (.node (y469 w) (.node (y725 w) (.node (y1237 w) .nil .nil) .nil) (.node (y981 w) .nil .nil)))) (.node (y117 w) (.node (y181 w) (.node (y309 w) (.node (y565 w) (.node (y1077 w) .nil .nil) .nil) (.node (y821 w) .nil .nil)) (.node (y437 w) (.node (y693 w) (.node (y1205 w) .nil .nil) .nil) (.node (y949 w) .nil .nil))) (.node (y245 w) (.node (y373 w) (.node (y629 w) (.node (y1141 w) .nil .nil) .nil) (.node (y885 w) .nil .nil)) (.node (y501 w) (.node (y757 w) (.node (y1269 w) .nil .nil) .nil) (.node (y1013 w) .nil .nil)))))) (.node (y29 w) (.node (y45 w) (.node (y77 w) (.node (y141 w) (.node (y269 w) (.node (y525 w) (.node (y1037 w) .nil .nil) .nil) (.node (y781 w) (.node (y1293 w) .nil .nil) .nil)) (.node (y397 w) (.node (y653 w) (.node (y1165 w) .nil .nil) .nil) (.node (y909 w) .nil .nil))) (.node (y205 w) (.node (y333 w) (.node (y589 w) (.node (y1101 w) .nil .nil) .nil) (.node (y845 w) .nil .nil)) (.node (y461 w) (.node (y717 w) (.node (y1229 w) .nil .nil) .nil) (.node (y973 w) .nil .nil)))) (.node (y109 w) (.node (y173 w) (.node (y301 w) (.node (y557 w) (.node (y1069 w) .nil .nil) .nil) (.node (y813 w) (.node (y1325 w) .nil .nil) .nil)) (.node (y429 w) (.node (y685 w) (.node (y1197 w) .nil .nil) .nil) (.node (y941 w) .nil .nil))) (.node (y237 w) (.node (y365 w) (.node (y621 w) (.node (y1133 w) .nil .nil) .nil) (.node (y877 w) .nil .nil)) (.node (y493 w) (.node (y749 w) (.node (y1261 w) .nil .nil) .nil) (.node (y1005 w) .nil .nil))))) (.node (y61 w) (.node (y93 w) (.node (y157 w) (.node (y285 w) (.node (y541 w) (.node (y1053 w) .nil .nil) .nil) (.node (y797 w) (.node (y1309 w) .nil .nil) .nil)) (.node (y413 w) (.node (y669 w) (.node (y1181 w) .nil .nil) .nil) (.node (y925 w) .nil .nil))) (.node (y221 w) (.node (y349 w) (.node (y605 w) (.node (y1117 w) .nil .nil) .nil) (.node (y861 w) .nil .nil)) (.node (y477 w) (.node (y733 w) (.node (y1245 w) .nil .nil) .nil) (.node (y989 w) .nil .nil)))) (.node (y125 w) (.node (y189 w) (.node (y317 w) (.node (y573 w) (.node (y1085 w) .nil .nil) .nil) (.node (y829 w) .nil .nil)) (.node (y445 w) (.node (y701 w) (.node (y1213 w) .nil .nil) .nil) (.node (y957 w) .nil .nil))) (.node (y253 w) (.node (y381 w) (.node (y637 w) (.node (y1149 w) .nil .nil) .nil) (.node (y893 w) .nil .nil)) (.node (y509 w) (.node (y765 w) (.node (y1277 w) .nil .nil) .nil) (.node (y1021 w) .nil .nil))))))))) (.node (y2 w) (.node (y4 w) (.node (y8 w) (.node (y16 w) (.node (y32 w) (.node (y64 w) (.node (y128 w) (.node (y256 w) (.node (y512 w) (.node (y1024 w) .nil .nil) .nil) (.node (y768 w) (.node (y1280 w) .nil .nil) .nil)) (.node (y384 w) (.node (y640 w) (.node (y1152 w) .nil .nil) .nil) (.node (y896 w) .nil .nil))) (.node (y192 w) (.node (y320 w) (.node (y576 w) (.node (y1088 w) .nil .nil) .nil) (.node (y832 w) .nil .nil)) (.node (y448 w) (.node (y704 w) (.node (y1216 w) .nil .nil) .nil) (.node (y960 w) .nil .nil)))) (.node (y96 w) (.node (y160 w) (.node (y288 w) (.node (y544 w) (.node (y1056 w) .nil .nil) .nil) (.node (y800 w) (.node (y1312 w) .nil .nil) .nil)) (.node (y416 w) (.node (y672 w) (.node (y1184 w) .nil .nil) .nil) (.node (y928 w) .nil .nil))) (.node (y224 w) (.node (y352 w) (.node (y608 w) (.node (y1120 w) .nil .nil) .nil) (.node (y864 w) .nil .nil)) (.node (y480 w) (.node (y736 w) (.node (y1248 w) .nil .nil) .nil) (.node (y992 w) .nil .nil))))) (.node (y48 w) (.node (y80 w) (.node (y144 w) (.node (y272 w) (.node (y528 w) (.node (y1040 w) .nil .nil) .nil) (.node (y784 w) (.node (y1296 w) .nil .nil) .nil)) (.node (y400 w) (.node (y656 w) (.node (y1168 w) .nil .nil) .nil) (.node (y912 w) .nil .nil))) (.node (y208 w) (.node (y336 w) (.node (y592 w) (.node (y1104 w) .nil .nil) .nil) (.node (y848 w) .nil .nil)) (.node (y464 w) (.node (y720 w) (.node (y1232 w) .nil .nil) .nil) (.node (y976 w) .nil .nil)))) (.node (y112 w) (.node (y176 w) (.node (y304 w) (.node (y560 w) (.node (y1072 w) .nil .nil) .nil) (.node (y816 w) (.node (y1328 w) .nil .nil) .nil)) (.node (y432 w) (.node (y688 w) (.node (y1200 w) .nil .nil) .nil) (.node (y944 w) .nil .nil))) (.node (y240 w) (.node (y368 w) (.node (y624 w) (.node (y1136 w) .nil .nil) .nil) (.node (y880 w) .nil .nil)) (.node (y496 w) (.node (y752 w) (.node (y1264 w) .nil .nil) .nil) (.node (y1008 w) .nil .nil)))))) (.node (y24 w) (.node (y40_4 w) (.node (y72 w) (.node (y136 w) (.node (y264 w) (.node (y520 w) (.node (y1032 w) .nil .nil) .nil) (.node (y776 w) (.node (y1288 w) .nil .nil) .nil)) (.node (y392 w) (.node (y648 w) (.node (y1160 w) .nil .nil) .nil) (.node (y904 w) .nil .nil))) (.node (y200 w) (.node (y328 w) (.node (y584 w) (.node (y1096 w) .nil .nil) .nil) (.node (y840 w) .nil .nil)) (.node (y456 w) (.node (y712 w) (.node (y1224 w) .nil .nil) .nil) (.node (y968 w) .nil .nil)))) (.node (y104 w) (.node (y168 w) (.node (y296 w) (.node (y552 w) (.node (y1064 w) .nil .nil) .nil) (.node (y808 w) (.node (y1320 w) .nil .nil) .nil)) (.node (y424 w) (.node (y680 w) (.node (y1192 w) .nil .nil) .nil) (.node (y936 w) .nil .nil))) (.node (y232 w) (.node (y360 w) (.node (y616 w) (.node (y1128 w) .nil .nil) .nil) (.node (y872 w) .nil .nil)) (.node (y488 w) (.node (y744 w) (.node (y1256 w) .nil .nil) .nil) (.node (y1000 w) .nil .nil))))) (.node (y56 w) (.node (y88 w) (.node (y152 w) (.node (y280 w) (.node (y536 w) (.node (y1048 w) .nil .nil) .nil) (.node (y792 w) (.node (y1304 w) .nil .nil) .nil)) (.node (y408 w) (.node (y664 w) (.node (y1176 w) .nil .nil) .nil) (.node (y920 w) .nil .nil))) (.node (y216 w) (.node (y344 w) (.node (y600 w) (.node (y1112 w) .nil .nil) .nil) (.node (y856 w) .nil .nil)) (.node (y472 w) (.node (y728 w) (.node (y1240 w) .nil .nil) .nil) (.node (y984 w) .nil .nil)))) (.node (y120 w) (.node (y184 w) (.node (y312 w) (.node (y568 w) (.node (y1080 w) .nil .nil) .nil) (.node (y824 w) .nil .nil)) (.node (y440 w) (.node (y696 w) (.node (y1208 w) .nil .nil) .nil) (.node (y952 w) .nil .nil))) (.node (y248 w) (.node (y376 w) (.node (y632 w) (.node (y1144 w) .nil .nil) .nil) (.node (y888 w) .nil .nil)) (.node (y504 w) (.node (y760 w) (.node (y1272 w) .nil .nil) .nil) (.node (y1016 w) .nil .nil))))))) (.node (y12 w) (.node (y20 w) (.node (y36 w) (.node (y68 w) (.node (y132 w) (.node (y260 w) (.node (y516 w) (.node (y1028 w) .nil .nil) .nil) (.node (y772 w) (.node (y1284 w) .nil .nil) .nil)) (.node (y388 w) (.node (y644 w) (.node (y1156 w) .nil .nil) .nil) (.node (y900 w) .nil .nil))) (.node (y196 w) (.node (y324 w) (.node (y580 w) (.node (y1092 w) .nil .nil) .nil) (.node (y836 w) .nil .nil)) (.node (y452 w) (.node (y708 w) (.node (y1220 w) .nil .nil) .nil) (.node (y964 w) .nil .nil)))) (.node (y100 w) (.node (y164 w) (.node (y292 w) (.node (y548 w) (.node (y1060 w) .nil .nil) .nil) (.node (y804 w) (.node (y1316 w) .nil .nil) .nil)) (.node (y420 w) (.node (y676 w) (.node (y1188 w) .nil .nil) .nil) (.node (y932 w) .nil .nil))) (.node (y228 w) (.node (y356 w) (.node (y612 w) (.node (y1124 w) .nil .nil) .nil) (.node (y868 w) .nil .nil)) (.node (y484 w) (.node (y740 w) (.node (y1252 w) .nil .nil) .nil) (.node (y996 w) .nil .nil))))) (.node (y52 w) (.node (y84 w) (.node (y148 w) (.node (y276 w) (.node (y532 w) (.node (y1044 w) .nil .nil) .nil) (.node (y788 w) (.node (y1300 w) .nil .nil) .nil)) (.node (y404 w) (.node (y660 w) (.node (y1172 w) .nil .nil) .nil) (.node (y916 w) .nil .nil))) (.node (y212 w) (.node (y340 w) (.node (y596 w) (.node (y1108 w) .nil .nil) .nil) (.node (y852 w) .nil .nil)) (.node (y468 w) (.node (y724 w) (.node (y1236 w) .nil .nil) .nil) (.node (y980 w) .nil .nil)))) (.node (y116 w) (.node (y180 w) (.node (y308 w) (.node (y564 w) (.node (y1076 w) .nil .nil) .nil) (.node (y820 w) .nil .nil)) (.node (y436 w) (.node (y692 w) (.node (y1204 w) .nil .nil) .nil) (.node (y948 w) .nil .nil))) (.node (y244 w) (.node (y372 w) (.node (y628 w) (.node (y1140 w) .nil .nil) .nil) (.node (y884 w) .nil .nil)) (.node (y500 w) (.node (y756 w) (.node (y1268 w) .nil .nil) .nil) (.node (y1012 w) .nil .nil)))))) (.node (y28 w) (.node (y44 w) (.node (y76 w) (.node (y140 w) (.node (y268 w) (.node (y524 w) (.node (y1036 w) .nil .nil) .nil) (.node (y780 w) (.node (y1292 w) .nil .nil) .nil)) (.node (y396 w) (.node (y652 w) (.node (y1164 w) .nil .nil) .nil) (.node (y908 w) .nil .nil))) (.node (y204 w) (.node (y332 w) (.node (y588 w) (.node (y1100 w) .nil .nil) .nil) (.node (y844 w) .nil .nil)) (.node (y460 w) (.node (y716 w) (.node (y1228 w) .nil .nil) .nil) (.node (y972 w) .nil .nil)))) (.node (y108 w) (.node (y172 w) (.node (y300 w) (.node (y556 w) (.node (y1068 w) .nil .nil) .nil) (.node (y812 w) (.node (y1324 w) .nil .nil) .nil)) (.node (y428 w) (.node (y684 w) (.node (y1196 w) .nil .nil) .nil) (.node (y940 w) .nil .nil))) (.node (y236 w) (.node (y364 w) (.node (y620 w) (.node (y1132 w) .nil .nil) .nil) (.node (y876 w) .nil .nil)) (.node (y492 w) (.node (y748 w) (.node (y1260 w) .nil .nil) .nil) (.node (y1004 w) .nil .nil))))) (.node (y60 w) (.node (y92 w) (.node (y156 w) (.node (y284 w) (.node (y540 w) (.node (y1052 w) .nil .nil) .nil) (.node (y796 w) (.node (y1308 w) .nil .nil) .nil)) (.node (y412 w) (.node (y668 w) (.node (y1180 w) .nil .nil) .nil) (.node (y924 w) .nil .nil))) (.node (y220 w) (.node (y348 w) (.node (y604 w) (.node (y1116 w) .nil .nil) .nil) (.node (y860 w) .nil .nil)) (.node (y476 w) (.node (y732 w) (.node (y1244 w) .nil .nil) .nil) (.node (y988 w) .nil .nil)))) (.node (y124 w) (.node (y188 w) (.node (y316 w) (.node (y572 w) (.node (y1084 w) .nil .nil) .nil) (.node (y828 w) .nil .nil)) (.node (y444 w) (.node (y700 w) (.node (y1212 w) .nil .nil) .nil) (.node (y956 w) .nil .nil))) (.node (y252 w) (.node (y380 w) (.node (y636 w) (.node (y1148 w) .nil .nil) .nil) (.node (y892 w) .nil .nil)) (.node (y508 w) (.node (y764 w) (.node (y1276 w) .nil .nil) .nil) (.node (y1020 w) .nil .nil)))))))) (.node (y6 w) (.node (y10 w) (.node (y18 w) (.node (y34 w) (.node (y66 w) (.node (y130 w) (.node (y258 w) (.node (y514 w) (.node (y1026 w) .nil .nil) .nil) (.node (y770 w) (.node (y1282 w) .nil .nil) .nil)) (.node (y386 w) (.node (y642 w) (.node (y1154 w) .nil .nil) .nil) (.node (y898 w) .nil .nil))) (.node (y194 w) (.node (y322 w) (.node (y578 w) (.node (y1090 w) .nil .nil) .nil) (.node (y834 w) .nil .nil)) (.node (y450 w) (.node (y706 w) (.node (y1218 w) .nil .nil) .nil) (.node (y962 w) .nil .nil)))) (.node (y98 w) (.node (y162 w) (.node (y290 w) (.node (y546 w) (.node (y1058 w) .nil .nil) .nil) (.node (y802 w) (.node (y1314 w) .nil .nil) .nil)) (.node (y418 w) (.node (y674 w) (.node (y1186 w) .nil .nil) .nil) (.node (y930 w) .nil .nil))) (.node (y226 w) (.node (y354 w) (.node (y610 w) (.node (y1122 w) .nil .nil) .nil) (.node (y866 w) .nil .nil)) (.node (y482 w) (.node (y738 w) (.node (y1250 w) .nil .nil) .nil) (.node (y994 w) .nil .nil))))) (.node (y50 w) (.node (y82 w) (.node (y146 w) (.node (y274 w) (.node (y530 w) (.node (y1042 w) .nil .nil) .nil) (.node (y786 w) (.node (y1298 w) .nil .nil) .nil)) (.node (y402 w) (.node (y658 w) (.node (y1170 w) .nil .nil) .nil) (.node (y914 w) .nil .nil))) (.node (y210 w) (.node (y338 w) (.node (y594 w) (.node (y1106 w) .nil .nil) .nil) (.node (y850 w) .nil .nil)) (.node (y466 w) (.node (y722 w) (.node (y1234 w) .nil .nil) .nil) (.node (y978 w) .nil .nil)))) (.node (y114 w) (.node (y178 w) (.node (y306 w) (.node (y562 w) (.node (y1074 w) .nil .nil) .nil) (.node (y818 w) (.node (y1330 w) .nil .nil) .nil)) (.node (y434 w) (.node (y690 w) (.node (y1202 w) .nil .nil) .nil) (.node (y946 w) .nil .nil))) (.node (y242 w) (.node (y370 w) (.node (y626 w) (.node (y1138 w) .nil .nil) .nil) (.node (y882 w) .nil .nil)) (.node (y498 w) (.node (y754 w) (.node (y1266 w) .nil .nil) .nil) (.node (y1010 w) .nil .nil)))))) (.node (y26 w) (.node (y42 w) (.node (y74 w) (.node (y138 w) (.node (y266 w) (.node (y522 w) (.node (y1034 w) .nil .nil) .nil) (.node (y778 w) (.node (y1290 w) .nil .nil) .nil)) (.node (y394 w) (.node (y650 w) (.node (y1162 w) .nil .nil) .nil) (.node (y906 w) .nil .nil))) (.node (y202 w) (.node (y330 w) (.node (y586 w) (.node (y1098 w) .nil .nil) .nil) (.node (y842 w) .nil .nil)) (.node (y458 w) (.node (y714 w) (.node (y1226 w) .nil .nil) .nil) (.node (y970 w) .nil .nil)))) (.node (y106 w) (.node (y170 w) (.node (y298 w) (.node (y554 w) (.node (y1066 w) .nil .nil) .nil) (.node (y810 w) (.node (y1322 w) .nil .nil) .nil)) (.node (y426 w) (.node (y682 w) (.node (y1194 w) .nil .nil) .nil) (.node (y938 w) .nil .nil))) (.node (y234 w) (.node (y362 w) (.node (y618 w) (.node (y1130 w) .nil .nil) .nil) (.node (y874 w) .nil .nil)) (.node (y490 w) (.node (y746 w) (.node (y1258 w) .nil .nil) .nil) (.node (y1002 w) .nil .nil))))) (.node (y58 w) (.node (y90 w) (.node (y154 w) (.node (y282 w) (.node (y538 w) (.node (y1050 w) .nil .nil) .nil) (.node (y794 w) (.node (y1306 w) .nil .nil) .nil)) (.node (y410 w) (.node (y666 w) (.node (y1178 w) .nil .nil) .nil) (.node (y922 w) .nil .nil))) (.node (y218 w) (.node (y346 w) (.node (y602 w) (.node (y1114 w) .nil .nil) .nil) (.node (y858 w) .nil .nil)) (.node (y474 w) (.node (y730 w) (.node (y1242 w) .nil .nil) .nil) (.node (y986 w) .nil .nil)))) (.node (y122 w) (.node (y186 w) (.node (y314 w) (.node (y570 w) (.node (y1082 w) .nil .nil) .nil) (.node (y826 w) .nil .nil)) (.node (y442 w) (.node (y698 w) (.node (y1210 w) .nil .nil) .nil) (.node (y954 w) .nil .nil))) (.node (y250 w) (.node (y378 w) (.node (y634 w) (.node (y1146 w) .nil .nil) .nil) (.node (y890 w) .nil .nil)) (.node (y506 w) (.node (y762 w) (.node (y1274 w) .nil .nil) .nil) (.node (y1018 w) .nil .nil))))))) (.node (y14 w) (.node (y22 w) (.node (y38 w) (.node (y70 w) (.node (y134 w) (.node (y262 w) (.node (y518 w) (.node (y1030 w) .nil .nil) .nil) (.node (y774 w) (.node (y1286 w) .nil .nil) .nil)) (.node (y390 w) (.node (y646 w) (.node (y1158 w) .nil .nil) .nil) (.node (y902 w) .nil .nil))) (.node (y198 w) (.node (y326 w) (.node (y582 w) (.node (y1094 w) .nil .nil) .nil) (.node (y838 w) .nil .nil)) (.node (y454 w) (.node (y710 w) (.node (y1222 w) .nil .nil) .nil) (.node (y966 w) .nil .nil)))) (.node (y102 w) (.node (y166 w) (.node (y294 w) (.node (y550 w) (.node (y1062 w) .nil .nil) .nil) (.node (y806 w) (.node (y1318 w) .nil .nil) .nil)) (.node (y422 w) (.node (y678 w) (.node (y1190 w) .nil .nil) .nil) (.node (y934 w) .nil .nil))) (.node (y230 w) (.node (y358 w) (.node (y614 w) (.node (y1126 w) .nil .nil) .nil) (.node (y870 w) .nil .nil)) (.node (y486 w) (.node (y742 w) (.node (y1254 w) .nil .nil) .nil) (.node (y998 w) .nil .nil))))) (.node (y54 w) (.node (y86 w) (.node (y150 w) (.node (y278 w) (.node (y534 w) (.node (y1046 w) .nil .nil) .nil) (.node (y790 w) (.node (y1302 w) .nil .nil) .nil)) (.node (y406 w) (.node (y662 w) (.node (y1174 w) .nil .nil) .nil) (.node (y918 w) .nil .nil))) (.node (y214 w) (.node (y342 w) (.node (y598 w) (.node (y1110 w) .nil .nil) .nil) (.node (y854 w) .nil .nil)) (.node (y470 w) (.node (y726 w) (.node (y1238 w) .nil .nil) .nil) (.node (y982 w) .nil .nil)))) (.node (y118 w) (.node (y182 w) (.node (y310 w) (.node (y566 w) (.node (y1078 w) .nil .nil) .nil) (.node (y822 w) .nil .nil)) (.node (y438 w) (.node (y694 w) (.node (y1206 w) .nil .nil) .nil) (.node (y950 w) .nil .nil))) (.node (y246 w) (.node (y374 w) (.node (y630 w) (.node (y1142 w) .nil .nil) .nil) (.node (y886 w) .nil .nil)) (.node (y502 w) (.node (y758 w) (.node (y1270 w) .nil .nil) .nil) (.node (y1014 w) .nil .nil)))))) (.node (y30 w) (.node (y46 w) (.node (y78 w) (.node (y142 w) (.node (y270 w) (.node (y526 w) (.node (y1038 w) .nil .nil) .nil) (.node (y782 w) (.node (y1294 w) .nil .nil) .nil)) (.node (y398 w) (.node (y654 w) (.node (y1166 w) .nil .nil) .nil) (.node (y910 w) .nil .nil))) (.node (y206 w) (.node (y334 w) (.node (y590 w) (.node (y1102 w) .nil .nil) .nil) (.node (y846 w) .nil .nil)) (.node (y462 w) (.node (y718 w) (.node (y1230 w) .nil .nil) .nil) (.node (y974 w) .nil .nil)))) (.node (y110 w) (.node (y174 w) (.node (y302 w) (.node (y558 w) (.node (y1070 w) .nil .nil) .nil) (.node (y814 w) (.node (y1326 w) .nil .nil) .nil)) (.node (y430 w) (.node (y686 w) (.node (y1198 w) .nil .nil) .nil) (.node (y942 w) .nil .nil))) (.node (y238 w) (.node (y366 w) (.node (y622 w) (.node (y1134 w) .nil .nil) .nil) (.node (y878 w) .nil .nil)) (.node (y494 w) (.node (y750 w) (.node (y1262 w) .nil .nil) .nil) (.node (y1006 w) .nil .nil))))) (.node (y62 w) (.node (y94 w) (.node (y158 w) (.node (y286 w) (.node (y542 w) (.node (y1054 w) .nil .nil) .nil) (.node (y798 w) (.node (y1310 w) .nil .nil) .nil)) (.node (y414 w) (.node (y670 w) (.node (y1182 w) .nil .nil) .nil) (.node (y926 w) .nil .nil))) (.node (y222 w) (.node (y350 w) (.node (y606 w) (.node (y1118 w) .nil .nil) .nil) (.node (y862 w) .nil .nil)) (.node (y478 w) (.node (y734 w) (.node (y1246 w) .nil .nil) .nil) (.node (y990 w) .nil .nil)))) (.node (y126 w) (.node (y190 w) (.node (y318 w) (.node (y574 w) (.node (y1086 w) .nil .nil) .nil) (.node (y830 w) .nil .nil)) (.node (y446 w) (.node (y702 w) (.node (y1214 w) .nil .nil) .nil) (.node (y958 w) .nil .nil))) (.node (y254 w) (.node (y382 w) (.node (y638 w) (.node (y1150 w) .nil .nil) .nil) (.node (y894 w) .nil .nil)) (.node (y510 w) (.node (y766 w) (.node (y1278 w) .nil .nil) .nil) (.node (y1022 w) .nil .nil))))))))))
def st5 (w : World) : PySem.W.SharedT := ⟨tree5 w, 1332, life0, #[], ⟨0,0,0,0⟩, 2222, (start (opening R.prog)).1.os⟩
/-- the state behind the imports -/
def headG (st : Program → SharedT → Thread → Option (SharedT × Thread)) (fence : Program → Shared → Option Shared) (M : Nat) (p : Program) : Option SharedT := match impF (st (opening p)) M (startT (opening p)) (start (opening p)).2 with
  | some s => (match fence p s.abs with
    | some s0 => (match s0.heap.isNs mainGlobals && s0.gens.size == 0 with
      | true => (match treeOf s0 with
        | some x => frS x fun x => some x
        | none => none)
      | false => none)
    | none => none)
  | none => none
section RUN
variable (st : SharedT → Thread → Option (SharedT × Thread)) (n0 : Nat) (ann : Option Value)
/-- so many steps of the top -/
def goM : Nat → SharedT → Thread → Option (SharedT × Thread)
  | 0, s, t => some (s, t)
  | m + 1, s, t => match through t with
    | true => none
    | false => match stepOk n0 ann t with
      | false => none
      | true => match st s t with
        | some (s', t') => frS s' fun s' => goM m s' t'
        | none => none
end RUN
def envT : Env := { scope := R.prog.main.scope, locals := mainNs, globals := mainNs, cells := [], code := .ref 41, frame := some 42 }
def stackT (rest : List Stmt) : List Frame := match ((do let _ ← run (.body rest envT); ret .none) : Sem Fin) with
  | .call c h g l k => [.ret k h g l (.builtin "claim.caller" {}) default []]
  | _ => []
def thrT (i : Nat) (p : Pos) : Thread := ⟨denQ tabQ (.body ((behindTheImports R.prog).drop i) envT), .body (behindTheImports R.prog) envT, p, stackT (behindTheImports R.prog)⟩
end
end K74
/-! ## Hk -/
set_option Elab.async false
set_option linter.all false
set_option maxRecDepth 100000
set_option maxHeartbeats 0
/-! the look at the end by a list of addresses -/
namespace He
open PySem PySem.Spec PyProof.Rows L2
def obsY (as : List Addr) (fa : List Fa) (fn : List DefD) (ts : List Tab) (tf : List Defn) (ex : PySem.W.Frag → Bool) (g : Addr → Option Obj) : AlX := (obsT fa fn ts (frT g as), ex (frT g as) && tabsB g tf (frT g as))
theorem saysY_of {as : List Addr} {fa : List Fa} {fn : List DefD} {ts : List Tab} {tf : List Defn} {ex : PySem.W.Frag → Bool} {w : World} {h : Heap} (e : obsY as fa fn ts tf ex h.get? = valX fn ts w) : SaysX fa fn ts tf ex w h (frT h.get? as) := by
  have e1 : obsT fa fn ts (frT h.get? as) = valT fn ts w := congrArg (fun z : AlX => z.1) e
  have e2 : (ex (frT h.get? as) && tabsB h.get? tf (frT h.get? as)) = true := congrArg (fun z : AlX => z.2) e
  obtain ⟨h1, h2⟩ := ba e2
  have key : ∀ p ∈ tf, PySem.W.codeHdIn (frT h.get? as) (cT (frT h.get? as) p).1 (cT (frT h.get? as) p).2 = true ∧ ∃ o, h.get? (cT (frT h.get? as) p).2 = some o ∧ emptyTab o = true := fun p hp => by
    obtain ⟨h3, h4⟩ := ba (List.all_eq_true.mp h2 p hp)
    refine ⟨h3, ?_⟩
    cases q : h.get? (cT (frT h.get? as) p).2 with
    | none => rw [q] at h4; cases h4
    | some o => rw [q] at h4; exact ⟨o, rfl, h4⟩
  refine ⟨e1, h1, fun p hp => (key p hp).1, fun p hp => ?_, fun p hp => ?_⟩
  · obtain ⟨_, o, q, z⟩ := key p hp
    exact frT_none q z
  · obtain ⟨_, o, q, z⟩ := key p hp
    rw [q, emptyTab_eq z]
def hookY (as : List Addr) (fa : List Fa) (fn : List DefD) (ts : List Tab) (tf : List Defn) (ex : PySem.W.Frag → Bool) : PySem.W.Hook where
  α := AlX
  obs := fun s => obsY as fa fn ts tf ex s.heap.get?
  val := fun w => valX fn ts w
  says := fun w h => ∃ K : PySem.W.Frag, K.In h ∧ SaysX fa fn ts tf ex w h K
  of := fun _ _ e => ⟨_, frT_in, saysY_of e⟩
  keeps := fun _ _ _ ⟨K, hK, c⟩ k => ⟨K, PySem.W.Frag.In.keeps hK k, ⟨c.t, c.more, c.hd, c.out, fun p hp => k _ _ (c.empty p hp)⟩⟩
theorem obsY_eq {as : List Addr} {fa : List Fa} {fn : List DefD} {ts : List Tab} {tf : List Defn} {ex : PySem.W.Frag → Bool} {g : Addr → Option Obj} {s : Shared} (h : ∀ a, g a = s.heap.get? a) : obsY as fa fn ts tf ex g = (hookY as fa fn ts tf ex).obs s := by
  have e : g = s.heap.get? := funext h
  rw [e] <;> rfl
end He
namespace K74
open PySem PySem.W PySem.Calls PyProof.Rows He HandSHeadRun L2
def asL : List Addr := [3, 0, 43, 50, 51, 52, 53, 54, 55, 56, 57, 58, 59, 60, 63, 70, 71, 72, 75, 82, 83, 84, 87, 94, 95, 96, 99, 106, 107, 108, 111, 118, 119, 120, 123, 130, 131, 132, 135, 142, 143, 144, 147, 154, 155, 156, 159, 166, 167, 168, 171, 178, 179, 180, 183, 190, 191, 192, 195, 202, 203, 204, 207, 214, 215, 216, 219, 226, 227, 228, 231, 238, 239, 240, 243, 244, 245, 246, 247, 248, 249, 257, 258, 259, 260, 261, 262, 263, 264, 265, 266, 267, 268, 269, 270, 271, 272, 273, 274, 275, 276, 277, 278, 279, 280, 281, 282, 283, 284, 285, 286, 287, 288, 289, 290, 291, 292, 293, 294, 295, 296, 297, 298, 299, 300, 301, 302, 303, 304, 305, 1095, 1096, 1097, 1098, 1099, 1100, 1101, 1163, 1164, 1165, 1166, 1167, 1168, 1169, 1170, 1171, 1172, 1173, 1174, 1175, 1176, 1177, 1178, 1179, 1180, 1181, 1182, 1183, 1184, 1185, 1186, 1187, 1188, 1189, 1190, 1191, 1192, 1193, 1194, 1195, 1196, 1197, 1198, 1199, 1200, 1201, 1202, 1203, 1204, 1205, 1206, 1207, 1208, 1209, 1210, 1211, 1212, 1213, 1214, 1215, 1216, 1217, 1218, 1219, 1220, 1221, 1222, 1223, 1224, 1225, 1226, 1227, 1228, 1229, 1230, 1231, 1232, 1233, 1234, 1235, 1236, 1237, 1238, 1239, 1240, 1241, 1242, 1243, 1244, 1245, 1246, 1247, 1248, 1249, 1250, 1251, 1254, 1255, 1256, 1257, 1258, 1259, 1260, 1261, 1262, 1263, 1264, 1265, 1266, 1267, 1268, 1269, 1270, 1271, 1272, 1273, 1274, 1275, 1276, 1277, 1278, 1279, 1280, 1281, 1282, 1283, 1284, 1285, 1286, 1287, 1288, 1289, 1290, 1291, 1292, 1293, 1294, 1295, 1296, 1297, 1298, 1299, 1300, 1301, 1302, 1303, 1304, 1305, 1306, 1307, 1308, 1309, 1310, 1311, 1312, 1313, 1314, 1315, 1316, 1317, 1318, 1319, 1320, 1321, 1322, 1323, 1324, 1325, 1326, 1327, 1328, 1329, 1330, 1331]
abbrev hkY : PySem.W.Hook := He.hookY asL faL fnL [] tfL exB
def obY (s : PySem.W.SharedT) : He.AlX := He.obsY asL faL fnL [] tfL exB (HandSHeadRun.getT s)
theorem obY_eq (s : PySem.W.SharedT) : obY s = hkY.obs s.abs := He.obsY_eq (HandSHeadRun.getT_eq s)
end K74
/-! ## Hg -/
set_option Elab.async false
set_option linter.all false
set_option maxRecDepth 100000
set_option maxHeartbeats 4000000
namespace K74
open PySem PySem.W PySem.Calls PyProof.Rows He HandSHeadRun L2
theorem goF_succ {st : SharedT → Thread → Option (SharedT × Thread)} {n0 : Nat} {ann : Option Value} (m : Nat) (s : SharedT) (t : Thread) : goF st n0 ann (m + 1) s t = (match through t with
    | true => some s
    | false => match stepOk n0 ann t with
      | false => none
      | true => match st s t with
        | some (s', t') => frS s' fun s' => goF st n0 ann m s' t'
        | none => none) := rfl
theorem goF_split {st : SharedT → Thread → Option (SharedT × Thread)} {n0 : Nat} {ann : Option Value} : ∀ {m k : Nat} {s s' : SharedT} {t t' : Thread}, goM st n0 ann m s t = some (s', t') → goF st n0 ann (m + k) s t = goF st n0 ann k s' t'
  | 0, k, s, s', t, t', h => by
    cases h
    rw [Nat.zero_add]
  | m + 1, k, s, s', t, t', h => by
    have e : m + 1 + k = (m + k) + 1 := by omega
    rw [e, goF_succ]
    unfold goM at h
    cases ht : through t with
    | true => rw [ht] at h; cases h
    | false =>
      rw [ht] at h
      cases hk : stepOk n0 ann t with
      | false => rw [hk] at h; cases h
      | true =>
        rw [hk] at h
        cases hs : st s t with
        | none => rw [hs] at h; cases h
        | some r =>
          obtain ⟨s2, t2⟩ := r
          rw [hs] at h
          have h3 : (frS s2 fun s' => goM st n0 ann m s' t2) = some (s', t') := h
          rw [frS_eq] at h3
          show (frS s2 fun s' => goF st n0 ann (m + k) s' t2) = _
          rw [frS_eq]
          exact goF_split h3
theorem goF_five {st : SharedT → Thread → Option (SharedT × Thread)} {n0 : Nat} {ann : Option Value} {m1 m2 m3 m4 m5 M : Nat} {s0 s1 s2 s3 s4 s5 : SharedT} {t0 t1 t2 t3 t4 : Thread}
    (h1 : goM st n0 ann m1 s0 t0 = some (s1, t1)) (h2 : goM st n0 ann m2 s1 t1 = some (s2, t2)) (h3 : goM st n0 ann m3 s2 t2 = some (s3, t3)) (h4 : goM st n0 ann m4 s3 t3 = some (s4, t4)) (h5 : goF st n0 ann m5 s4 t4 = some s5)
    (hM : m1 + (m2 + (m3 + (m4 + m5))) = M) : goF st n0 ann M s0 t0 = some s5 := by
  rw [← hM, goF_split h1, goF_split h2, goF_split h3, goF_split h4, h5]
theorem whole_of {st : Program → SharedT → Thread → Option (SharedT × Thread)} {fence : Program → Shared → Option Shared} {M : Nat} {p : Program} {x0 x1 : SharedT} {ann : Option Value} {n0 : Nat} (h : headG st fence M p = some x0) (hA : x0.abs.heap.nsMap mainGlobals "__annotations__" = ann) (hn : x0.n = n0)
    (hT : goF (st p) n0 ann M x0 (topStub p) = some x1) : wholeF st fence M p = some (x0.abs, x1) := by
  unfold headG at h
  unfold wholeF
  cases e1 : impF (st (opening p)) M (startT (opening p)) (start (opening p)).2 with
  | none => simp only [e1] at h; cases h
  | some s =>
    simp only [e1] at h ⊢
    cases e2 : fence p s.abs with
    | none => simp only [e2] at h; cases h
    | some z =>
      simp only [e2] at h ⊢
      cases e3 : (z.heap.isNs mainGlobals && z.gens.size == 0) with
      | false => simp only [e3] at h; cases h
      | true =>
        simp only [e3] at h ⊢
        cases e4 : treeOf z with
        | none => simp only [e4] at h; cases h
        | some x =>
          simp only [e4, frS_eq, Option.some.injEq] at h ⊢
          obtain ⟨ex, en⟩ := treeOf_eq e4
          subst h
          subst ex
          rw [hA, hn, hT]
theorem runEq_of {r : OpenRow} {q : Program} {H : Hook} {ob : SharedT → H.α} {M : Nat} {loose : List PySem.Str} {w : World} {x0 : Shared} {x1 : SharedT} (hW : wholeF (fun p => stepQ (denQ tabQ) p w) fenceQ M r.prog = some (x0, x1)) (h6 : looksF r.prog x0.heap x1.abs = true)
    (h7 : seenQ q loose (importedModules r.prog.main.body) (fun s => xlAt q [] s && recOk r.toRowW.records s) x1.abs = openGood q loose) (h8 : ob x1 = H.val w) : RunEqI r q H ob M loose w := by
  unfold RunEqI
  rw [hW, Option.map_some, h6, h7, h8]
end K74
/-! ## Hp0 -/
set_option Elab.async false
set_option linter.all false
set_option maxRecDepth 100000
set_option maxHeartbeats 0
namespace K74
open PySem PySem.W PySem.Calls PyProof.Rows He HandSHeadRun L2
noncomputable section
theorem hp0 (w : World) : headG (fun p => stepQ (denQ tabQ) p w) fenceQ 9300 R.prog = some (st0 w) := by
  kernel_rfl
theorem hpA (w : World) : (st0 w).abs.heap.nsMap mainGlobals "__annotations__" = some (.ref 6) := by
  kernel_rfl
theorem hpN (w : World) : ((st0 w).abs.heap.isNs mainGlobals && (st0 w).abs.gens.size == 0) = true := by
  kernel_rfl
end
end K74
/-! ## Hp1 -/
set_option Elab.async false
set_option linter.all false
set_option maxRecDepth 100000
set_option maxHeartbeats 0
namespace K74
open PySem PySem.W PySem.Calls PyProof.Rows He HandSHeadRun L2
noncomputable section
theorem hp1 (w : World) : goM (stepQ (denQ tabQ) R.prog w) 39 (some (.ref 6)) 1943 (st0 w) (topStub R.prog) = some (st1 w, (thrT 10 ⟨21, 0, 22, 8⟩)) := by
  kernel_rfl
end
end K74
/-! ## Hp2 -/
set_option Elab.async false
set_option linter.all false
set_option maxRecDepth 100000
set_option maxHeartbeats 0
namespace K74
open PySem PySem.W PySem.Calls PyProof.Rows He HandSHeadRun L2
noncomputable section
theorem hp2 (w : World) : goM (stepQ (denQ tabQ) R.prog w) 39 (some (.ref 6)) 1901 (st1 w) (thrT 10 ⟨21, 0, 22, 8⟩) = some (st2 w, (thrT 32 ⟨82, 0, 94, 20⟩)) := by
  kernel_rfl
end
end K74
/-! ## Hp3 -/
set_option Elab.async false
set_option linter.all false
set_option maxRecDepth 100000
set_option maxHeartbeats 0
namespace K74
open PySem PySem.W PySem.Calls PyProof.Rows He HandSHeadRun L2
noncomputable section
theorem hp3 (w : World) : goM (stepQ (denQ tabQ) R.prog w) 39 (some (.ref 6)) 1852 (st2 w) (thrT 32 ⟨82, 0, 94, 20⟩) = some (st3 w, (thrT 104 ⟨467, 0, 472, 20⟩)) := by
  kernel_rfl
end
end K74
/-! ## Hp4 -/
set_option Elab.async false
set_option linter.all false
set_option maxRecDepth 100000
set_option maxHeartbeats 0
namespace K74
open PySem PySem.W PySem.Calls PyProof.Rows He HandSHeadRun L2
noncomputable section
theorem hp4 (w : World) : goM (stepQ (denQ tabQ) R.prog w) 39 (some (.ref 6)) 1779 (st3 w) (thrT 104 ⟨467, 0, 472, 20⟩) = some (st4 w, (thrT 177 ⟨766, 0, 771, 70⟩)) := by
  kernel_rfl
end
end K74
/-! ## Hp5t -/
set_option Elab.async false
set_option linter.all false
set_option maxRecDepth 100000
set_option maxHeartbeats 0
namespace K74
open PySem PySem.W PySem.Calls PyProof.Rows He HandSHeadRun L2
noncomputable section
theorem hp5t (w : World) : goF (stepQ (denQ tabQ) R.prog (w.withFollow "special-get-raises" true)) 39 (some (.ref 6)) 1825 (st4 (w.withFollow "special-get-raises" true)) (thrT 177 ⟨766, 0, 771, 70⟩) = some (st5 (w.withFollow "special-get-raises" true)) := by
  kernel_rfl
end
end K74
/-! ## Hp5f -/
set_option Elab.async false
set_option linter.all false
set_option maxRecDepth 100000
set_option maxHeartbeats 0
namespace K74
open PySem PySem.W PySem.Calls PyProof.Rows He HandSHeadRun L2
noncomputable section
theorem hp5f (w : World) : goF (stepQ (denQ tabQ) R.prog (w.withFollow "special-get-raises" false)) 39 (some (.ref 6)) 1825 (st4 (w.withFollow "special-get-raises" false)) (thrT 177 ⟨766, 0, 771, 70⟩) = some (st5 (w.withFollow "special-get-raises" false)) := by
  kernel_rfl
end
end K74
/-! ## Hp6 -/
set_option Elab.async false
set_option linter.all false
set_option maxRecDepth 100000
set_option maxHeartbeats 0
namespace K74
open PySem PySem.W PySem.Calls PyProof.Rows He HandSHeadRun L2
noncomputable section
theorem hp6 (w : World) : looksF R.prog (st0 w).abs.heap (st5 w).abs = true := by
  kernel_rfl
end
end K74
/-! ## Hp7 -/
set_option Elab.async false
set_option linter.all false
set_option maxRecDepth 100000
set_option maxHeartbeats 0
namespace K74
open PySem PySem.W PySem.Calls PyProof.Rows He HandSHeadRun L2
noncomputable section
theorem hp7 (w : World) : seenQ qv names (importedModules R.prog.main.body) (fun s => xlAt qv [] s && recOk R.toRowW.records s) (st5 w).abs = openGood qv names := by
  kernel_rfl
end
end K74
/-! ## Hp8 -/
set_option Elab.async false
set_option linter.all false
set_option maxRecDepth 100000
set_option maxHeartbeats 0
namespace K74
open PySem PySem.W PySem.Calls PyProof.Rows He HandSHeadRun L2
noncomputable section
theorem hp8 (w : World) : obY (st5 w) = hkY.val w := by
  kernel_rfl
end
end K74
/-! ## Hz -/
set_option Elab.async false
set_option linter.all false
set_option maxRecDepth 100000
set_option maxHeartbeats 400000
namespace K74
open PySem PySem.W PySem.Calls PyProof.Rows He HandSHeadRun L2
theorem hp5 (w : World) : goF (stepQ (denQ tabQ) R.prog w) 39 (some (.ref 6)) 1825 (st4 w) (thrT 177 ⟨766, 0, 771, 70⟩) = some (st5 w) :=
  PySem.W.byRow2 (P := fun w => goF (stepQ (denQ tabQ) R.prog w) 39 (some (.ref 6)) 1825 (st4 w) (thrT 177 ⟨766, 0, 771, 70⟩) = some (st5 w)) "special-get-raises" hp5f hp5t w
theorem hpW (w : World) : wholeF (fun p => stepQ (denQ tabQ) p w) fenceQ 9300 R.prog = some ((st0 w).abs, st5 w) :=
  whole_of (n0 := 39) (hp0 w) (hpA w) rfl (goF_five (hp1 w) (hp2 w) (hp3 w) (hp4 w) (hp5 w) (by decide))
theorem head_all (w : World) : RunEqI R qv hkY obY 9300 names w := runEq_of (hpW w) (hp6 w) (hp7 w) (hp8 w)
end K74
/-! ## Me -/
set_option Elab.async false
set_option linter.all false
set_option maxRecDepth 100000
set_option maxHeartbeats 4000000
namespace K74
open PySem PySem.Spec PyProof.Rows L2 He Kx Gx GxR
section
variable {P : Program} {w : World} {K : PySem.W.Frag} {mg : Str → Option Value} {base : Heap}
/-- what the head says, at a base that holds what it tells -/
theorem wd_of {w : World} {h : Heap} (c : SaysX faL fnL [] tfL exB w h K) (X : K.In base) (G : base.Ns mainGlobals mg) (T : ∀ p ∈ tfL.map (cT K), TabB base mg p.1 p.2) : Wd K mg base :=
  ⟨fun i f e => c.t.d.fact i e, fun i d e => c.t.d.def_ i e, fun p hp => T _ (List.mem_map.mpr ⟨p, hp, rfl⟩), X, G, c.more⟩
/-- the law's facts at the head's heap -/
theorem law_says {l : PySem.W.OpenLaw} {w : World} {h : Heap} {fa : Addr} (X : K.In h) (G : h.Ns mainGlobals mg) (hmg : mg ("law" : Str) = some (.ref fa)) (c : SaysX faL fnL [] tfL exB w h K) : LawG l w K CX0 19 63 "script" mg fa h := by
  have e := hmg.symm.trans (glo_ok X G (c.t.d.fact 20 (f := .glo "law") rfl))
  cases e
  obtain ⟨fd, F⟩ := c.t.d.def_ 31 (d := ⟨("law", none), "law", "law", defArgs s_law, defBody s_law, defScope s_law, [], []⟩) rfl
  have b := FunD.bindsA (ps := ["script"]) F fun _ _ _ _ _ _ us hl => match us, hl with | [_], _ => rfl
  refine ⟨fd, tfL.map (cT K), spLaw K, fun p hp => ?_, fun p hp => ?_, fun p hp => ?_, fun s u => b s [u] rfl, fun H a ns hl hT hS => ⟨a, ns, rfl, hS, hl, fun p hp => ⟨#[], hT _ (List.mem_map.mpr ⟨p, hp, rfl⟩), ?_⟩, fun _ => rfl⟩, fun base X' G' T => ?_⟩
  · obtain ⟨p, hq, rfl⟩ := List.mem_map.mp hp
    exact c.empty p hq
  · obtain ⟨p, hq, rfl⟩ := List.mem_map.mp hp
    exact c.out p hq
  · obtain ⟨p, hq, rfl⟩ := List.mem_map.mp hp
    exact PySem.W.codeHd_of_K X (c.hd p hq)
  · trivial
  · obtain ⟨fd', F', _, _, oc, od, osl, lk⟩ := ok_law (P := l.prog) (w := w) (wd_of c X' G' T)
    obtain ⟨oc2, od2, dV, kV, doc, pm, an, cdv, ct, osl2, e2, lk2, _⟩ := F.ex
    have e3 : fd' = fd := by
      have e4 := lk.symm.trans lk2
      injection e4 with e4
      injection e4 with _ _ e5 _
      injection e5
    rw [← e3]
    exact F'
end
end K74
open PySem PySem.W PySem.Calls PyProof.Rows
set_option maxRecDepth 100000 in
set_option maxHeartbeats 0 in
theorem PySem.Challenge.cw_wholecounts_k74_refusals_of_consoles_holds : PySem.Challenge.rw_wholecounts_k74_refusals_of_consoles.Holds := by
  refine K74.z_law fun said => ?_
  refine HandSHeadRun.head_imp (r := OpenLaw.row PySem.Challenge.rw_wholecounts_k74_refusals_of_consoles) (q := K74.qv) (H := K74.hkY) (ob := K74.obY) (M := 9300) (loose := K74.names) (d := HandSHeadRun.topDef K74.R.prog 220) (kwd := []) K74.obY_eq K74.head_all K74.z_def K74.z_thedef K74.z_kw K74.z_wr (by first | assumption | decide +kernel) K74.z_ok K74.z_bare ?hw ?hc
  case hw => w_witness2
  case hc =>
    refine K74.walkG (l := PySem.Challenge.rw_wholecounts_k74_refusals_of_consoles) (n := 63) (k := 19) (x := "script") (CX := fun _ => L2.CX0) rfl (by decide) (by kernel_rfl) ⟨rfl, by decide, by decide⟩ ?F (fun _ _ _ _ _ z => z)
    intro w mg fa h Y G hmg0
    obtain ⟨K, KX, c⟩ := Y
    have hmg : mg ("law" : PySem.Str) = some (.ref fa) := by
      rw [← K74.z_name]
      exact hmg0
    exact ⟨K, KX, K74.law_says KX G hmg c⟩
